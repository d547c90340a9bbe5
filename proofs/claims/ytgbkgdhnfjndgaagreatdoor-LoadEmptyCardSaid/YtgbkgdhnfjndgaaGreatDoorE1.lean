import Derived.Test.YtgbkgdhnfjndgaaGreatDoorB5
import Derived.KernelRfl
import Derived.Test.YtgbkgdhnfjndgaaGreatDoorProg
/- A part of the proof: a calculus of values over the model, and the functions that the statement reaches, each once, in that calculus. -/
set_option linter.all false
set_option linter.unusedSimpArgs false
set_option linter.unusedVariables false

/- Part Ad5b0. -/
namespace Gx
theorem and_mk {a b : Bool} (h : a = true) (k : b = true) : (a && b) = true := by rw [h, k]; rfl
end Gx

/- Part Ir0. -/
open Go Go.Proofs Gx
namespace Gx
def ir3 : If := ⟨74, [.t 4],
 .seq (.reg <|
   .one none (.tk 4 (.c (.bool false))) <|
   .nil) <|
 .seq (.reg <|
   .one none (.mv 12 (.t 0)) <|
   .one none (.cv 13 (.ints .i64) (.t 12)) <|
   .one none (.bi 14 .rem (.t 13) (.c (.int .i64 70))) <|
   .one none (.tk 5 (.t 14)) <|
   .nil) <|
 .seq (.reg <|
   .one none (.tk 6 (.c (.str []))) <|
   .nil) <|
 .seq (.seq (.reg <|
    .one none (.mv 15 (.t 1)) <|
    .one none (.bi 16 .rem (.t 15) (.c (.int .u8 5))) <|
    .one none (.cv 17 (.ints .i64) (.t 16)) <|
    .one none (.mv 18 (.c (.int .i64 0))) <|
    .nil) <|
  .block 0 <|
  .loop <|
  .seq (.reg <|
    .one none (.bi 19 .lss (.t 18) (.t 17)) <|
    .nil) <|
  .seq (.cond (.t 19) (.skip) <|
   .exit 0) <|
  .seq (.block 1 <|
   .reg <|
    .one none (.mv 20 (.t 6)) <|
    .one none (.bi 21 .add (.t 20) (.c (.str [35, 32, 110, 10, 10]))) <|
    .one none (.tk 6 (.t 21)) <|
    .nil) <|
  .reg <|
   .one none (.bi 22 .add (.t 18) (.c (.int .i64 1))) <|
   .one none (.mv 18 (.t 22)) <|
   .nil) <|
 .seq (.reg <|
   .one none (.mv 23 (.t 1)) <|
   .one none (.bi 24 .rem (.t 23) (.c (.int .u8 5))) <|
   .one none (.cv 25 (.ints .i64) (.t 24)) <|
   .one none (.bi 26 .mul (.c (.int .i64 2)) (.t 25)) <|
   .one none (.tk 7 (.t 26)) <|
   .nil) <|
 .seq (.seq (.reg <|
    .one none (.mv 27 (.t 5)) <|
    .one none (.mv 28 (.c (.int .i64 0))) <|
    .nil) <|
  .block 2 <|
  .loop <|
  .seq (.reg <|
    .one none (.bi 29 .lss (.t 28) (.t 27)) <|
    .nil) <|
  .seq (.cond (.t 29) (.skip) <|
   .exit 2) <|
  .seq (.block 3 <|
   .reg <|
    .one none (.mv 30 (.t 6)) <|
    .one none (.bi 31 .add (.t 30) (.c (.str [45, 45, 45, 10]))) <|
    .one none (.tk 6 (.t 31)) <|
    .nil) <|
  .reg <|
   .one none (.bi 32 .add (.t 28) (.c (.int .i64 1))) <|
   .one none (.mv 28 (.t 32)) <|
   .nil) <|
 .seq (.reg <|
   .one none (.mv 34 (.t 6)) <|
   .one none (.ca (some 35) (.c (.clo 15 [] [])) [(false, (.t 34))]) <|
   .one none (.mv 33 (.t 35)) <|
   .one none (.ex 36 (.t 33) 0) <|
   .one none (.ex 37 (.t 33) 1) <|
   .one none (.al 9 25 [(.int .i64 0), (.int .i64 0)]) <|
   .one none (.tk 8 (.t 36)) <|
   .one none (.st 2 (.t 9) (.t 37)) <|
   .nil) <|
 .seq (.seq (.reg <|
    .one none (.mv 38 (.t 5)) <|
    .one none (.bi 39 .gtr (.t 38) (.c (.int .i64 64))) <|
    .nil) <|
  .cond (.t 39) (.seq (.reg <|
     .one none (.ld 40 (some 2) (.t 9)) <|
     .one none (.mv 41 (.t 7)) <|
     .one none (.bi 42 .add (.t 41) (.c (.int .i64 65))) <|
     .one none (.bd 43 [(.int .i64 0), (.int .i64 0)] [(0, 1, (.c (.int .i64 5))), (1, 1, (.t 42))]) <|
     .one none (.eq 44 false [1, 1] (.t 40) (.t 43)) <|
     .one none (.mv 45 (.t 44)) <|
     .one (some (45, true)) (.mv 46 (.t 8)) <|
     .one (some (45, true)) (.ln 47 false (.t 46)) <|
     .one (some (45, true)) (.bi 48 .eql (.t 47) (.c (.int .i64 0))) <|
     .one none (.pk 49 (.t 45) (.t 48) (.c (.bool false))) <|
     .one none (.mv 50 (.t 49)) <|
     .one (some (50, true)) (.ca (some 51) (.c (.clo 16 [] [])) []) <|
     .one none (.pk 52 (.t 50) (.t 51) (.c (.bool false))) <|
     .one none (.tk 4 (.t 52)) <|
     .nil) <|
   .ret) <|
  .skip) <|
 .seq (.seq (.reg <|
    .one none (.ld 53 (some 2) (.t 9)) <|
    .one none (.bd 54 [(.int .i64 0), (.int .i64 0)] []) <|
    .one none (.eq 55 true [1, 1] (.t 53) (.t 54)) <|
    .one none (.mv 56 (.t 55)) <|
    .one (some (56, false)) (.mv 57 (.t 8)) <|
    .one (some (56, false)) (.ln 58 false (.t 57)) <|
    .one (some (56, false)) (.mv 59 (.t 5)) <|
    .one (some (56, false)) (.bi 60 .neq (.t 58) (.t 59)) <|
    .one none (.pk 61 (.t 56) (.c (.bool true)) (.t 60)) <|
    .nil) <|
  .cond (.t 61) (.seq (.reg <|
     .one none (.tk 4 (.c (.bool false))) <|
     .nil) <|
   .ret) <|
  .skip) <|
 .seq (.seq (.reg <|
    .one none (.mv 62 (.t 8)) <|
    .one none (.ln 63 false (.t 62)) <|
    .one none (.mv 64 (.c (.int .i64 0))) <|
    .nil) <|
  .block 4 <|
  .loop <|
  .seq (.reg <|
    .one none (.bi 65 .lss (.t 64) (.t 63)) <|
    .nil) <|
  .seq (.cond (.t 65) (.skip) <|
   .exit 4) <|
  .seq (.block 5 <|
   .seq (.reg <|
     .one none (.ia 66 4 (.t 62) (.t 64)) <|
     .one none (.ld 67 (some 4) (.t 66)) <|
     .one none (.al 11 30 [(.int .i64 0), (.str []), (.str []), (.sl true [])]) <|
     .one none (.st 4 (.t 11) (.t 67)) <|
     .nil) <|
   .seq (.reg <|
     .one none (.ld 68 (some 4) (.t 11)) <|
     .one none (.bd 69 [(.int .i64 0), (.str []), (.str []), (.sl true [])] [(0, 1, (.c (.int .i64 1)))]) <|
     .one none (.ca (some 70) (.c (.clo 17 [] [])) [(false, (.t 68)), (false, (.t 69))]) <|
     .one none (.no 71 .not (.t 70)) <|
     .nil) <|
   .cond (.t 71) (.seq (.reg <|
      .one none (.tk 4 (.c (.bool false))) <|
      .nil) <|
    .ret) <|
   .skip) <|
  .reg <|
   .one none (.bi 72 .add (.t 64) (.c (.int .i64 1))) <|
   .one none (.mv 64 (.t 72)) <|
   .nil) <|
 .seq (.reg <|
   .one none (.ca (some 73) (.c (.clo 16 [] [])) []) <|
   .one none (.tk 4 (.t 73)) <|
   .nil) <|
 .ret⟩
theorem has3 : Has Tryz.prog [] 3 ir3 := has_of Tryz.func3 (by kernel_rfl)
def ir10 : If := ⟨36, [.t 2],
 .seq (.reg <|
   .one none (.tk 2 (.c (.bool false))) <|
   .nil) <|
 .seq (.seq (.reg <|
    .one none (.mv 6 (.t 0)) <|
    .one none (.ln 7 false (.t 6)) <|
    .one none (.bi 8 .gtr (.t 7) (.c (.int .i64 2000))) <|
    .nil) <|
  .cond (.t 8) (.seq (.reg <|
     .one none (.ca (some 9) (.c (.clo 16 [] [])) []) <|
     .one none (.tk 2 (.t 9)) <|
     .nil) <|
   .ret) <|
  .skip) <|
 .seq (.reg <|
   .one none (.mv 10 (.t 0)) <|
   .one none (.ca (some 11) (.c (.clo 30 [] [])) [(false, (.t 10))]) <|
   .one none (.mv 12 (.t 0)) <|
   .one none (.ca (some 13) (.c (.clo 31 [] [])) [(false, (.t 12))]) <|
   .one none (.tk 3 (.t 11)) <|
   .one none (.tk 4 (.t 13)) <|
   .nil) <|
 .seq (.seq (.reg <|
    .one none (.mv 14 (.t 3)) <|
    .one none (.ln 15 false (.t 14)) <|
    .one none (.mv 16 (.t 4)) <|
    .one none (.ln 17 false (.t 16)) <|
    .one none (.bi 18 .neq (.t 15) (.t 17)) <|
    .nil) <|
  .cond (.t 18) (.seq (.reg <|
     .one none (.tk 2 (.c (.bool false))) <|
     .nil) <|
   .ret) <|
  .skip) <|
 .seq (.seq (.reg <|
    .one none (.mv 19 (.t 3)) <|
    .one none (.ln 20 false (.t 19)) <|
    .one none (.mv 21 (.c (.int .i64 0))) <|
    .nil) <|
  .block 0 <|
  .loop <|
  .seq (.reg <|
    .one none (.bi 22 .lss (.t 21) (.t 20)) <|
    .nil) <|
  .seq (.cond (.t 22) (.skip) <|
   .exit 0) <|
  .seq (.block 1 <|
   .seq (.reg <|
     .one none (.mv 23 (.t 21)) <|
     .one none (.tk 5 (.t 23)) <|
     .nil) <|
   .seq (.reg <|
     .one none (.mv 24 (.t 3)) <|
     .one none (.mv 25 (.t 5)) <|
     .one none (.ia 26 1 (.t 24) (.t 25)) <|
     .one none (.mv 28 (.t 4)) <|
     .one none (.mv 29 (.t 5)) <|
     .one none (.ia 30 1 (.t 28) (.t 29)) <|
     .any [
       .one none (.ld 27 none (.t 26)) <|
        .one none (.ld 31 none (.t 30)) <|
        .one none (.ca (some 32) (.c (.clo 32 [] [])) [(false, (.t 27)), (false, (.t 31))]) <|
        .one none (.no 33 .not (.t 32)) <|
        .nil,
       .one none (.ld 31 none (.t 30)) <|
        .one none (.ld 27 none (.t 26)) <|
        .one none (.ca (some 32) (.c (.clo 32 [] [])) [(false, (.t 27)), (false, (.t 31))]) <|
        .one none (.no 33 .not (.t 32)) <|
        .nil]) <|
   .cond (.t 33) (.seq (.reg <|
      .one none (.tk 2 (.c (.bool false))) <|
      .nil) <|
    .ret) <|
   .skip) <|
  .reg <|
   .one none (.bi 34 .add (.t 21) (.c (.int .i64 1))) <|
   .one none (.mv 21 (.t 34)) <|
   .nil) <|
 .seq (.reg <|
   .one none (.ca (some 35) (.c (.clo 16 [] [])) []) <|
   .one none (.tk 2 (.t 35)) <|
   .nil) <|
 .ret⟩
theorem has10 : Has Tryz.prog [] 10 ir10 := has_of Tryz.func10 (by kernel_rfl)
def ir16 : If := ⟨29, [.t 0],
 .seq (.reg <|
   .one none (.tk 0 (.c (.bool false))) <|
   .nil) <|
 .seq (.reg <|
   .one none (.ca (some 4) (.c (.clo 15 [] [])) [(false, (.c (.str [97, 10, 45, 45, 45, 10, 98, 58, 32, 53, 10])))]) <|
   .one none (.mv 3 (.t 4)) <|
   .one none (.ex 5 (.t 3) 0) <|
   .one none (.ex 6 (.t 3) 1) <|
   .one none (.al 2 25 [(.int .i64 0), (.int .i64 0)]) <|
   .one none (.tk 1 (.t 5)) <|
   .one none (.st 2 (.t 2) (.t 6)) <|
   .nil) <|
 .seq (.reg <|
   .one none (.ld 7 (some 2) (.t 2)) <|
   .one none (.bd 8 [(.int .i64 0), (.int .i64 0)] []) <|
   .one none (.eq 9 false [1, 1] (.t 7) (.t 8)) <|
   .one none (.mv 10 (.t 9)) <|
   .one (some (10, true)) (.mv 11 (.t 1)) <|
   .one (some (10, true)) (.ln 12 false (.t 11)) <|
   .one (some (10, true)) (.bi 13 .eql (.t 12) (.c (.int .i64 2))) <|
   .one none (.pk 14 (.t 10) (.t 13) (.c (.bool false))) <|
   .one none (.mv 15 (.t 14)) <|
   .one (some (15, true)) (.mv 16 (.t 1)) <|
   .one (some (15, true)) (.ia 17 4 (.t 16) (.c (.int .i64 0))) <|
   .one (some (15, true)) (.fa 18 1 (.t 17)) <|
   .one (some (15, true)) (.ld 19 none (.t 18)) <|
   .one (some (15, true)) (.bi 20 .eql (.t 19) (.c (.str [97]))) <|
   .one none (.pk 21 (.t 15) (.t 20) (.c (.bool false))) <|
   .one none (.mv 22 (.t 21)) <|
   .one (some (22, true)) (.mv 23 (.t 1)) <|
   .one (some (22, true)) (.ia 24 4 (.t 23) (.c (.int .i64 1))) <|
   .one (some (22, true)) (.fa 25 0 (.t 24)) <|
   .one (some (22, true)) (.ld 26 none (.t 25)) <|
   .one (some (22, true)) (.bi 27 .eql (.t 26) (.c (.int .i64 6))) <|
   .one none (.pk 28 (.t 22) (.t 27) (.c (.bool false))) <|
   .one none (.tk 0 (.t 28)) <|
   .nil) <|
 .ret⟩
theorem has16 : Has Tryz.prog [] 16 ir16 := has_of Tryz.func16 (by kernel_rfl)
def ir17 : If := ⟨53, [.t 4],
 .seq (.reg <|
   .one none (.bx 2 30 4 (.t 0)) <|
   .one none (.bx 3 30 4 (.t 1)) <|
   .one none (.tk 4 (.c (.bool false))) <|
   .nil) <|
 .seq (.seq (.reg <|
    .one none (.fa 6 0 (.t 2)) <|
    .one none (.ld 7 none (.t 6)) <|
    .one none (.fa 8 0 (.t 3)) <|
    .one none (.ld 9 none (.t 8)) <|
    .one none (.bi 10 .neq (.t 7) (.t 9)) <|
    .one none (.mv 11 (.t 10)) <|
    .one (some (11, false)) (.fa 12 1 (.t 2)) <|
    .one (some (11, false)) (.ld 13 none (.t 12)) <|
    .one (some (11, false)) (.fa 14 1 (.t 3)) <|
    .one (some (11, false)) (.ld 15 none (.t 14)) <|
    .one (some (11, false)) (.bi 16 .neq (.t 13) (.t 15)) <|
    .one none (.pk 17 (.t 11) (.c (.bool true)) (.t 16)) <|
    .one none (.mv 18 (.t 17)) <|
    .one (some (18, false)) (.fa 19 2 (.t 2)) <|
    .one (some (18, false)) (.ld 20 none (.t 19)) <|
    .one (some (18, false)) (.fa 21 2 (.t 3)) <|
    .one (some (18, false)) (.ld 22 none (.t 21)) <|
    .one (some (18, false)) (.bi 23 .neq (.t 20) (.t 22)) <|
    .one none (.pk 24 (.t 18) (.c (.bool true)) (.t 23)) <|
    .one none (.mv 25 (.t 24)) <|
    .one (some (25, false)) (.fa 26 3 (.t 2)) <|
    .one (some (25, false)) (.ld 27 none (.t 26)) <|
    .one (some (25, false)) (.ln 28 false (.t 27)) <|
    .one (some (25, false)) (.fa 29 3 (.t 3)) <|
    .one (some (25, false)) (.ld 30 none (.t 29)) <|
    .one (some (25, false)) (.ln 31 false (.t 30)) <|
    .one (some (25, false)) (.bi 32 .neq (.t 28) (.t 31)) <|
    .one none (.pk 33 (.t 25) (.c (.bool true)) (.t 32)) <|
    .nil) <|
  .cond (.t 33) (.seq (.reg <|
     .one none (.tk 4 (.c (.bool false))) <|
     .nil) <|
   .ret) <|
  .skip) <|
 .seq (.seq (.reg <|
    .one none (.tk 5 (.c (.int .i64 0))) <|
    .nil) <|
  .block 0 <|
  .loop <|
  .seq (.seq (.reg <|
     .one none (.mv 34 (.t 5)) <|
     .one none (.fa 35 3 (.t 2)) <|
     .one none (.ld 36 none (.t 35)) <|
     .one none (.ln 37 false (.t 36)) <|
     .one none (.bi 38 .lss (.t 34) (.t 37)) <|
     .nil) <|
   .cond (.t 38) (.skip) <|
   .exit 0) <|
  .seq (.block 1 <|
   .seq (.reg <|
     .one none (.fa 41 3 (.t 2)) <|
     .one none (.mv 43 (.t 5)) <|
     .one none (.fa 46 3 (.t 3)) <|
     .one none (.mv 48 (.t 5)) <|
     .any [
       .one none (.ld 42 none (.t 41)) <|
        .one none (.ia 44 4 (.t 42) (.t 43)) <|
        .any [
          .one none (.ld 45 (some 4) (.t 44)) <|
           .one none (.ld 47 none (.t 46)) <|
           .one none (.ia 49 4 (.t 47) (.t 48)) <|
           .one none (.ld 50 (some 4) (.t 49)) <|
           .one none (.ca (some 51) (.c (.clo 17 [] [])) [(false, (.t 45)), (false, (.t 50))]) <|
           .one none (.no 52 .not (.t 51)) <|
           .nil,
          .one none (.ld 47 none (.t 46)) <|
           .one none (.ia 49 4 (.t 47) (.t 48)) <|
           .any [
             .one none (.ld 45 (some 4) (.t 44)) <|
              .one none (.ld 50 (some 4) (.t 49)) <|
              .one none (.ca (some 51) (.c (.clo 17 [] [])) [(false, (.t 45)), (false, (.t 50))]) <|
              .one none (.no 52 .not (.t 51)) <|
              .nil,
             .one none (.ld 50 (some 4) (.t 49)) <|
              .one none (.ld 45 (some 4) (.t 44)) <|
              .one none (.ca (some 51) (.c (.clo 17 [] [])) [(false, (.t 45)), (false, (.t 50))]) <|
              .one none (.no 52 .not (.t 51)) <|
              .nil]],
       .one none (.ld 47 none (.t 46)) <|
        .one none (.ia 49 4 (.t 47) (.t 48)) <|
        .any [
          .one none (.ld 42 none (.t 41)) <|
           .one none (.ia 44 4 (.t 42) (.t 43)) <|
           .any [
             .one none (.ld 45 (some 4) (.t 44)) <|
              .one none (.ld 50 (some 4) (.t 49)) <|
              .one none (.ca (some 51) (.c (.clo 17 [] [])) [(false, (.t 45)), (false, (.t 50))]) <|
              .one none (.no 52 .not (.t 51)) <|
              .nil,
             .one none (.ld 50 (some 4) (.t 49)) <|
              .one none (.ld 45 (some 4) (.t 44)) <|
              .one none (.ca (some 51) (.c (.clo 17 [] [])) [(false, (.t 45)), (false, (.t 50))]) <|
              .one none (.no 52 .not (.t 51)) <|
              .nil],
          .one none (.ld 50 (some 4) (.t 49)) <|
           .one none (.ld 42 none (.t 41)) <|
           .one none (.ia 44 4 (.t 42) (.t 43)) <|
           .one none (.ld 45 (some 4) (.t 44)) <|
           .one none (.ca (some 51) (.c (.clo 17 [] [])) [(false, (.t 45)), (false, (.t 50))]) <|
           .one none (.no 52 .not (.t 51)) <|
           .nil]]) <|
   .cond (.t 52) (.seq (.reg <|
      .one none (.tk 4 (.c (.bool false))) <|
      .nil) <|
    .ret) <|
   .skip) <|
  .reg <|
   .one none (.mv 39 (.t 5)) <|
   .one none (.bi 40 .add (.t 39) (.c (.int .i64 1))) <|
   .one none (.tk 5 (.t 40)) <|
   .nil) <|
 .seq (.reg <|
   .one none (.tk 4 (.c (.bool true))) <|
   .nil) <|
 .ret⟩
theorem has17 : Has Tryz.prog [] 17 ir17 := has_of Tryz.func17 (by kernel_rfl)
def ir20 : If := ⟨38, [.cell 2 (some 4), .cell 3 (some 2)],
 .seq (.reg <|
   .one none (.al 2 30 [(.int .i64 0), (.str []), (.str []), (.sl true [])]) <|
   .one none (.al 3 25 [(.int .i64 0), (.int .i64 0)]) <|
   .nil) <|
 .seq (.reg <|
   .one none (.al 6 69 [(.int .i64 0), (.int .i64 0)]) <|
   .one none (.tk 4 (.t 6)) <|
   .nil) <|
 .seq (.reg <|
   .one none (.mv 7 (.t 4)) <|
   .one none (.mv 8 (.t 0)) <|
   .one none (.ca (some 9) (.c (.clo 43 [] [])) [(false, (.t 7)), (false, (.t 8)), (false, (.c (.int .i64 0)))]) <|
   .one none (.al 5 30 [(.int .i64 0), (.str []), (.str []), (.sl true [])]) <|
   .one none (.st 4 (.t 5) (.t 9)) <|
   .nil) <|
 .seq (.seq (.reg <|
    .one none (.mv 10 (.t 4)) <|
    .one none (.nc 11 (.t 10)) <|
    .one none (.fa 12 0 (.t 11)) <|
    .one none (.ld 13 (some 2) (.t 12)) <|
    .one none (.bd 14 [(.int .i64 0), (.int .i64 0)] []) <|
    .one none (.eq 15 false [1, 1] (.t 13) (.t 14)) <|
    .one none (.mv 16 (.t 15)) <|
    .one (some (16, true)) (.ld 17 (some 4) (.t 5)) <|
    .one (some (16, true)) (.ca (some 18) (.c (.clo 29 [] [])) [(false, (.t 17))]) <|
    .one (some (16, true)) (.no 19 .not (.t 18)) <|
    .one none (.pk 20 (.t 16) (.t 19) (.c (.bool false))) <|
    .nil) <|
  .cond (.t 20) (.reg <|
    .one none (.mv 21 (.t 4)) <|
    .one none (.bd 22 [(.int .i64 0), (.int .i64 0)] [(0, 1, (.c (.int .i64 5)))]) <|
    .one none (.nc 23 (.t 21)) <|
    .one none (.fa 24 0 (.t 23)) <|
    .one none (.st 2 (.t 24) (.t 22)) <|
    .nil) <|
  .skip) <|
 .seq (.seq (.reg <|
    .one none (.mv 25 (.t 4)) <|
    .one none (.nc 26 (.t 25)) <|
    .one none (.fa 27 0 (.t 26)) <|
    .one none (.ld 28 (some 2) (.t 27)) <|
    .one none (.bd 29 [(.int .i64 0), (.int .i64 0)] []) <|
    .one none (.eq 30 true [1, 1] (.t 28) (.t 29)) <|
    .nil) <|
  .cond (.t 30) (.seq (.reg <|
     .one none (.bd 31 [(.int .i64 0), (.str []), (.str []), (.sl true [])] []) <|
     .one none (.mv 32 (.t 4)) <|
     .one none (.nc 33 (.t 32)) <|
     .one none (.fa 34 0 (.t 33)) <|
     .any [
       .one none (.ld 35 (some 2) (.t 34)) <|
        .one none (.st 4 (.t 2) (.t 31)) <|
        .one none (.st 2 (.t 3) (.t 35)) <|
        .nil,
       .one none (.st 4 (.t 2) (.t 31)) <|
        .one none (.ld 35 (some 2) (.t 34)) <|
        .one none (.st 2 (.t 3) (.t 35)) <|
        .nil]) <|
   .ret) <|
  .skip) <|
 .seq (.reg <|
   .one none (.ld 36 (some 4) (.t 5)) <|
   .one none (.bd 37 [(.int .i64 0), (.int .i64 0)] []) <|
   .one none (.st 4 (.t 2) (.t 36)) <|
   .one none (.st 2 (.t 3) (.t 37)) <|
   .nil) <|
 .ret⟩
theorem has20 : Has Tryz.prog [] 20 ir20 := has_of Tryz.func20 (by kernel_rfl)
def ir22 : If := ⟨32, [.t 2, .t 3, .t 4],
 .seq (.reg <|
   .one none (.tk 2 (.c (.str []))) <|
   .one none (.tk 3 (.c (.int .i64 0))) <|
   .one none (.tk 4 (.c (.bool false))) <|
   .nil) <|
 .seq (.reg <|
   .one none (.mv 9 (.t 0)) <|
   .one none (.ca (some 10) (.c (.clo 46 [] [])) [(false, (.t 9)), (false, (.c (.str [45])))]) <|
   .one none (.mv 8 (.t 10)) <|
   .one none (.ex 11 (.t 8) 0) <|
   .one none (.ex 12 (.t 8) 1) <|
   .one none (.tk 5 (.t 11)) <|
   .one none (.tk 6 (.t 12)) <|
   .nil) <|
 .seq (.seq (.reg <|
    .one none (.mv 13 (.t 6)) <|
    .one none (.no 14 .not (.t 13)) <|
    .one none (.mv 15 (.t 14)) <|
    .one (some (15, false)) (.mv 16 (.t 5)) <|
    .one (some (15, false)) (.bi 17 .neq (.t 16) (.c (.str []))) <|
    .one (some (15, false)) (.mv 18 (.t 17)) <|
    .one (some (18, true)) (.mv 19 (.t 5)) <|
    .one (some (18, true)) (.ix 20 (.t 19) (.c (.int .i64 0))) <|
    .one (some (18, true)) (.bi 21 .neq (.t 20) (.c (.int .u8 32))) <|
    .one (some (15, false)) (.pk 22 (.t 18) (.t 21) (.c (.bool false))) <|
    .one none (.pk 23 (.t 15) (.c (.bool true)) (.t 22)) <|
    .nil) <|
  .cond (.t 23) (.seq (.reg <|
     .one none (.tk 2 (.c (.str []))) <|
     .one none (.tk 3 (.c (.int .i64 0))) <|
     .one none (.tk 4 (.c (.bool false))) <|
     .nil) <|
   .ret) <|
  .skip) <|
 .seq (.reg <|
   .one none (.mv 24 (.t 5)) <|
   .one none (.ca (some 25) (.c (.clo 47 [] [])) [(false, (.t 24)), (false, (.c (.str [32])))]) <|
   .one none (.tk 7 (.t 25)) <|
   .nil) <|
 .seq (.reg <|
   .one none (.mv 26 (.t 7)) <|
   .one none (.mv 27 (.t 0)) <|
   .one none (.ln 28 true (.t 27)) <|
   .one none (.mv 29 (.t 7)) <|
   .one none (.ln 30 true (.t 29)) <|
   .one none (.bi 31 .sub (.t 28) (.t 30)) <|
   .one none (.tk 2 (.t 26)) <|
   .one none (.tk 3 (.t 31)) <|
   .one none (.tk 4 (.c (.bool true))) <|
   .nil) <|
 .ret⟩
theorem has22 : Has Tryz.prog [] 22 ir22 := has_of Tryz.func22 (by kernel_rfl)
def ir24 : If := ⟨48, [.cell 2 (some 4), .t 3, .t 4, .t 5],
 .seq (.reg <|
   .one none (.al 2 30 [(.int .i64 0), (.str []), (.str []), (.sl true [])]) <|
   .one none (.tk 3 (.c (.str []))) <|
   .one none (.tk 4 (.c (.int .i64 0))) <|
   .one none (.tk 5 (.c (.bool false))) <|
   .nil) <|
 .seq (.reg <|
   .one none (.mv 13 (.t 0)) <|
   .one none (.ca (some 14) (.c (.clo 49 [] [])) [(false, (.t 13))]) <|
   .one none (.mv 12 (.t 14)) <|
   .one none (.ex 15 (.t 12) 0) <|
   .one none (.ex 16 (.t 12) 1) <|
   .one none (.ex 17 (.t 12) 2) <|
   .one none (.al 6 30 [(.int .i64 0), (.str []), (.str []), (.sl true [])]) <|
   .one none (.st 4 (.t 6) (.t 15)) <|
   .one none (.tk 7 (.t 16)) <|
   .one none (.tk 8 (.t 17)) <|
   .nil) <|
 .seq (.reg <|
   .one none (.mv 19 (.t 7)) <|
   .one none (.ca (some 20) (.c (.clo 46 [] [])) [(false, (.t 19)), (false, (.c (.str [58])))]) <|
   .one none (.mv 18 (.t 20)) <|
   .one none (.ex 21 (.t 18) 0) <|
   .one none (.ex 22 (.t 18) 1) <|
   .one none (.tk 9 (.t 21)) <|
   .one none (.tk 10 (.t 22)) <|
   .nil) <|
 .seq (.seq (.reg <|
    .one none (.mv 23 (.t 8)) <|
    .one none (.no 24 .not (.t 23)) <|
    .one none (.mv 25 (.t 24)) <|
    .one (some (25, false)) (.mv 26 (.t 10)) <|
    .one (some (25, false)) (.no 27 .not (.t 26)) <|
    .one none (.pk 28 (.t 25) (.c (.bool true)) (.t 27)) <|
    .one none (.mv 29 (.t 28)) <|
    .one (some (29, false)) (.mv 30 (.t 9)) <|
    .one (some (29, false)) (.bi 31 .neq (.t 30) (.c (.str []))) <|
    .one (some (29, false)) (.mv 32 (.t 31)) <|
    .one (some (32, true)) (.mv 33 (.t 9)) <|
    .one (some (32, true)) (.ix 34 (.t 33) (.c (.int .i64 0))) <|
    .one (some (32, true)) (.bi 35 .neq (.t 34) (.c (.int .u8 32))) <|
    .one (some (29, false)) (.pk 36 (.t 32) (.t 35) (.c (.bool false))) <|
    .one none (.pk 37 (.t 29) (.c (.bool true)) (.t 36)) <|
    .nil) <|
  .cond (.t 37) (.seq (.reg <|
     .one none (.bd 38 [(.int .i64 0), (.str []), (.str []), (.sl true [])] []) <|
     .one none (.st 4 (.t 2) (.t 38)) <|
     .one none (.tk 3 (.c (.str []))) <|
     .one none (.tk 4 (.c (.int .i64 0))) <|
     .one none (.tk 5 (.c (.bool false))) <|
     .nil) <|
   .ret) <|
  .skip) <|
 .seq (.reg <|
   .one none (.mv 39 (.t 9)) <|
   .one none (.ca (some 40) (.c (.clo 47 [] [])) [(false, (.t 39)), (false, (.c (.str [32])))]) <|
   .one none (.tk 11 (.t 40)) <|
   .nil) <|
 .seq (.reg <|
   .one none (.ld 41 (some 4) (.t 6)) <|
   .one none (.mv 42 (.t 11)) <|
   .one none (.mv 43 (.t 0)) <|
   .one none (.ln 44 true (.t 43)) <|
   .one none (.mv 45 (.t 11)) <|
   .one none (.ln 46 true (.t 45)) <|
   .one none (.bi 47 .sub (.t 44) (.t 46)) <|
   .one none (.st 4 (.t 2) (.t 41)) <|
   .one none (.tk 3 (.t 42)) <|
   .one none (.tk 4 (.t 47)) <|
   .one none (.tk 5 (.c (.bool true))) <|
   .nil) <|
 .ret⟩
theorem has24 : Has Tryz.prog [] 24 ir24 := has_of Tryz.func24 (by kernel_rfl)
def ir28 : If := ⟨12, [.t 2],
 .seq (.reg <|
   .one none (.bx 1 48 3 (.t 0)) <|
   .one none (.tk 2 (.c (.bool false))) <|
   .nil) <|
 .seq (.reg <|
   .one none (.fa 3 1 (.t 1)) <|
   .one none (.ld 4 none (.t 3)) <|
   .one none (.bi 5 .eql (.t 4) (.c (.str []))) <|
   .one none (.mv 6 (.t 5)) <|
   .one (some (6, false)) (.fa 7 1 (.t 1)) <|
   .one (some (6, false)) (.ld 8 none (.t 7)) <|
   .one (some (6, false)) (.ix 9 (.t 8) (.c (.int .i64 0))) <|
   .one (some (6, false)) (.bi 10 .eql (.t 9) (.c (.int .u8 35))) <|
   .one none (.pk 11 (.t 6) (.c (.bool true)) (.t 10)) <|
   .one none (.tk 2 (.t 11)) <|
   .nil) <|
 .ret⟩
theorem has28 : Has Tryz.prog [] 28 ir28 := has_of Tryz.func28 (by kernel_rfl)
def ir29 : If := ⟨9, [.t 2],
 .seq (.reg <|
   .one none (.bx 1 30 4 (.t 0)) <|
   .one none (.tk 2 (.c (.bool false))) <|
   .nil) <|
 .seq (.reg <|
   .one none (.bd 4 [(.int .i64 0)] [(0, 1, (.c (.int .i64 4096)))]) <|
   .one none (.bx 5 88 1 (.t 4)) <|
   .one none (.tk 3 (.t 5)) <|
   .nil) <|
 .seq (.reg <|
   .one none (.mv 6 (.t 3)) <|
   .one none (.ld 7 (some 4) (.t 1)) <|
   .one none (.ca (some 8) (.c (.clo 57 [] [])) [(false, (.t 6)), (false, (.t 7)), (false, (.c (.int .i64 0)))]) <|
   .one none (.tk 2 (.t 8)) <|
   .nil) <|
 .ret⟩
theorem has29 : Has Tryz.prog [] 29 ir29 := has_of Tryz.func29 (by kernel_rfl)
def ir31 : If := ⟨42, [.t 2],
 .seq (.reg <|
   .one none (.tk 2 (.c (.sl true []))) <|
   .nil) <|
 .seq (.reg <|
   .one none (.tk 3 (.c (.sl true []))) <|
   .nil) <|
 .seq (.reg <|
   .one none (.tk 4 (.c (.int .i64 0))) <|
   .nil) <|
 .seq (.seq (.reg <|
    .one none (.tk 5 (.c (.int .i64 0))) <|
    .nil) <|
  .block 0 <|
  .loop <|
  .seq (.seq (.reg <|
     .one none (.mv 6 (.t 5)) <|
     .one none (.mv 7 (.t 0)) <|
     .one none (.ln 8 false (.t 7)) <|
     .one none (.bi 9 .leq (.t 6) (.t 8)) <|
     .nil) <|
   .cond (.t 9) (.skip) <|
   .exit 0) <|
  .seq (.block 1 <|
   .seq (.seq (.reg <|
      .one none (.mv 12 (.t 5)) <|
      .one none (.mv 13 (.t 0)) <|
      .one none (.ln 14 false (.t 13)) <|
      .one none (.bi 15 .lss (.t 12) (.t 14)) <|
      .one none (.mv 16 (.t 15)) <|
      .one (some (16, true)) (.mv 17 (.t 0)) <|
      .one (some (16, true)) (.mv 18 (.t 5)) <|
      .one (some (16, true)) (.ia 19 3 (.t 17) (.t 18)) <|
      .one (some (16, true)) (.ld 20 (some 3) (.t 19)) <|
      .one (some (16, true)) (.ca (some 21) (.c (.clo 58 [] [])) [(false, (.t 20))]) <|
      .one (some (16, true)) (.no 22 .not (.t 21)) <|
      .one none (.pk 23 (.t 16) (.t 22) (.c (.bool false))) <|
      .nil) <|
    .cond (.t 23) (.exit 1) <|
    .skip) <|
   .seq (.seq (.reg <|
      .one none (.mv 24 (.t 4)) <|
      .one none (.bi 25 .gtr (.t 24) (.c (.int .i64 0))) <|
      .one none (.mv 26 (.t 25)) <|
      .one (some (26, false)) (.mv 27 (.t 0)) <|
      .one (some (26, false)) (.mv 28 (.t 5)) <|
      .one (some (26, false)) (.sc 29 3 (.t 27) none (some (.t 28)) none) <|
      .one (some (26, false)) (.ca (some 30) (.c (.clo 59 [] [])) [(false, (.t 29))]) <|
      .one none (.pk 31 (.t 26) (.c (.bool true)) (.t 30)) <|
      .nil) <|
    .cond (.t 31) (.reg <|
      .one none (.tk 32 (.t 3)) <|
      .one none (.mv 33 (.t 0)) <|
      .one none (.mv 34 (.t 4)) <|
      .one none (.mv 35 (.t 5)) <|
      .one none (.sc 36 3 (.t 33) (some (.t 34)) (some (.t 35)) none) <|
      .one none (.bs 37 33 1 [(.t 36)]) <|
      .one none (.ap 38 33 1 (.t 32) (.t 37)) <|
      .one none (.tk 3 (.t 38)) <|
      .nil) <|
    .skip) <|
   .reg <|
    .one none (.mv 39 (.t 5)) <|
    .one none (.bi 40 .add (.t 39) (.c (.int .i64 1))) <|
    .one none (.tk 4 (.t 40)) <|
    .nil) <|
  .reg <|
   .one none (.mv 10 (.t 5)) <|
   .one none (.bi 11 .add (.t 10) (.c (.int .i64 1))) <|
   .one none (.tk 5 (.t 11)) <|
   .nil) <|
 .seq (.reg <|
   .one none (.mv 41 (.t 3)) <|
   .one none (.tk 2 (.t 41)) <|
   .nil) <|
 .ret⟩
theorem has31 : Has Tryz.prog [] 31 ir31 := has_of Tryz.func31 (by kernel_rfl)
def ir32 : If := ⟨26, [.t 4],
 .seq (.reg <|
   .one none (.tk 4 (.c (.bool false))) <|
   .nil) <|
 .seq (.seq (.reg <|
    .one none (.mv 6 (.t 0)) <|
    .one none (.ln 7 false (.t 6)) <|
    .one none (.mv 8 (.t 1)) <|
    .one none (.ln 9 false (.t 8)) <|
    .one none (.bi 10 .neq (.t 7) (.t 9)) <|
    .nil) <|
  .cond (.t 10) (.seq (.reg <|
     .one none (.tk 4 (.c (.bool false))) <|
     .nil) <|
   .ret) <|
  .skip) <|
 .seq (.seq (.reg <|
    .one none (.tk 5 (.c (.int .i64 0))) <|
    .nil) <|
  .block 0 <|
  .loop <|
  .seq (.seq (.reg <|
     .one none (.mv 11 (.t 5)) <|
     .one none (.mv 12 (.t 0)) <|
     .one none (.ln 13 false (.t 12)) <|
     .one none (.bi 14 .lss (.t 11) (.t 13)) <|
     .nil) <|
   .cond (.t 14) (.skip) <|
   .exit 0) <|
  .seq (.block 1 <|
   .seq (.reg <|
     .one none (.mv 17 (.t 0)) <|
     .one none (.mv 18 (.t 5)) <|
     .one none (.ia 19 3 (.t 17) (.t 18)) <|
     .one none (.mv 21 (.t 1)) <|
     .one none (.mv 22 (.t 5)) <|
     .one none (.ia 23 3 (.t 21) (.t 22)) <|
     .any [
       .one none (.ld 20 (some 3) (.t 19)) <|
        .one none (.ld 24 (some 3) (.t 23)) <|
        .one none (.eq 25 true [1, 2, 1] (.t 20) (.t 24)) <|
        .nil,
       .one none (.ld 24 (some 3) (.t 23)) <|
        .one none (.ld 20 (some 3) (.t 19)) <|
        .one none (.eq 25 true [1, 2, 1] (.t 20) (.t 24)) <|
        .nil]) <|
   .cond (.t 25) (.seq (.reg <|
      .one none (.tk 4 (.c (.bool false))) <|
      .nil) <|
    .ret) <|
   .skip) <|
  .reg <|
   .one none (.mv 15 (.t 5)) <|
   .one none (.bi 16 .add (.t 15) (.c (.int .i64 1))) <|
   .one none (.tk 5 (.t 16)) <|
   .nil) <|
 .seq (.reg <|
   .one none (.tk 4 (.c (.bool true))) <|
   .nil) <|
 .ret⟩
theorem has32 : Has Tryz.prog [] 32 ir32 := has_of Tryz.func32 (by kernel_rfl)
end Gx

/- Part Ir1. -/
open Go Go.Proofs Gx
namespace Gx
def ir38 : If := ⟨58, [.t 2, .cell 3 (some 2)],
 .seq (.reg <|
   .one none (.tk 2 (.c (.sl true []))) <|
   .one none (.al 3 25 [(.int .i64 0), (.int .i64 0)]) <|
   .nil) <|
 .seq (.seq (.reg <|
    .one none (.mv 9 (.t 0)) <|
    .one none (.ln 10 true (.t 9)) <|
    .one none (.bi 11 .gtr (.t 10) (.c (.int .i64 65536))) <|
    .nil) <|
  .cond (.t 11) (.seq (.reg <|
     .one none (.bd 12 [(.int .i64 0), (.int .i64 0)] [(0, 1, (.c (.int .i64 5)))]) <|
     .one none (.tk 2 (.c (.sl true []))) <|
     .one none (.st 2 (.t 3) (.t 12)) <|
     .nil) <|
   .ret) <|
  .skip) <|
 .seq (.reg <|
   .one none (.tk 4 (.c (.sl true []))) <|
   .nil) <|
 .seq (.seq (.reg <|
    .one none (.mv 13 (.t 0)) <|
    .one none (.ca (some 14) (.c (.clo 62 [] [])) [(false, (.t 13))]) <|
    .one none (.ln 15 false (.t 14)) <|
    .one none (.mv 16 (.c (.int .i64 0))) <|
    .nil) <|
  .block 0 <|
  .loop <|
  .seq (.reg <|
    .one none (.bi 17 .lss (.t 16) (.t 15)) <|
    .nil) <|
  .seq (.cond (.t 17) (.skip) <|
   .exit 0) <|
  .seq (.block 1 <|
   .seq (.reg <|
     .one none (.mv 18 (.t 16)) <|
     .one none (.ia 19 1 (.t 14) (.t 16)) <|
     .one none (.ld 20 none (.t 19)) <|
     .one none (.tk 5 (.t 18)) <|
     .one none (.tk 6 (.t 20)) <|
     .nil) <|
   .seq (.seq (.reg <|
      .one none (.mv 21 (.t 6)) <|
      .one none (.ca (some 22) (.c (.clo 63 [] [])) [(false, (.t 21))]) <|
      .one none (.bd 23 [(.int .i64 0), (.int .i64 0)] []) <|
      .one none (.eq 24 true [1, 1] (.t 22) (.t 23)) <|
      .one none (.mv 25 (.t 24)) <|
      .one (some (25, false)) (.mv 26 (.t 6)) <|
      .one (some (25, false)) (.ca (some 27) (.c (.clo 64 [] [])) [(false, (.t 26)), (false, (.c (.int .u8 13)))]) <|
      .one (some (25, false)) (.bi 28 .geq (.t 27) (.c (.int .i64 0))) <|
      .one none (.pk 29 (.t 25) (.c (.bool true)) (.t 28)) <|
      .nil) <|
    .cond (.t 29) (.seq (.reg <|
       .one none (.mv 30 (.t 5)) <|
       .one none (.bi 31 .add (.t 30) (.c (.int .i64 1))) <|
       .one none (.bd 32 [(.int .i64 0), (.int .i64 0)] [(0, 1, (.c (.int .i64 8))), (1, 1, (.t 31))]) <|
       .one none (.tk 2 (.c (.sl true []))) <|
       .one none (.st 2 (.t 3) (.t 32)) <|
       .nil) <|
     .ret) <|
    .skip) <|
   .seq (.reg <|
     .one none (.mv 33 (.t 6)) <|
     .one none (.ca (some 34) (.c (.clo 47 [] [])) [(false, (.t 33)), (false, (.c (.str [32])))]) <|
     .one none (.tk 7 (.t 34)) <|
     .nil) <|
   .seq (.reg <|
     .one none (.mv 35 (.t 6)) <|
     .one none (.ln 36 true (.t 35)) <|
     .one none (.mv 37 (.t 7)) <|
     .one none (.ln 38 true (.t 37)) <|
     .one none (.bi 39 .sub (.t 36) (.t 38)) <|
     .one none (.mv 40 (.t 7)) <|
     .one none (.ca (some 41) (.c (.clo 65 [] [])) [(false, (.t 40)), (false, (.c (.str [32])))]) <|
     .one none (.mv 42 (.t 5)) <|
     .one none (.bi 43 .add (.t 42) (.c (.int .i64 1))) <|
     .one none (.bd 44 [(.int .i64 0), (.str []), (.int .i64 0)] [(0, 1, (.t 39)), (1, 1, (.t 41)), (2, 1, (.t 43))]) <|
     .one none (.al 8 48 [(.int .i64 0), (.str []), (.int .i64 0)]) <|
     .one none (.st 3 (.t 8) (.t 44)) <|
     .nil) <|
   .seq (.seq (.reg <|
      .one none (.fa 45 1 (.t 8)) <|
      .one none (.ld 46 none (.t 45)) <|
      .one none (.ca (some 47) (.c (.clo 66 [] [])) [(false, (.t 46)), (false, (.c (.str [9])))]) <|
      .nil) <|
    .cond (.t 47) (.seq (.reg <|
       .one none (.mv 48 (.t 5)) <|
       .one none (.bi 49 .add (.t 48) (.c (.int .i64 1))) <|
       .one none (.bd 50 [(.int .i64 0), (.int .i64 0)] [(0, 1, (.c (.int .i64 9))), (1, 1, (.t 49))]) <|
       .one none (.tk 2 (.c (.sl true []))) <|
       .one none (.st 2 (.t 3) (.t 50)) <|
       .nil) <|
     .ret) <|
    .skip) <|
   .reg <|
    .one none (.tk 51 (.t 4)) <|
    .one none (.ld 52 (some 3) (.t 8)) <|
    .one none (.bs 53 48 3 [(.t 52)]) <|
    .one none (.ap 54 48 3 (.t 51) (.t 53)) <|
    .one none (.tk 4 (.t 54)) <|
    .nil) <|
  .reg <|
   .one none (.bi 55 .add (.t 16) (.c (.int .i64 1))) <|
   .one none (.mv 16 (.t 55)) <|
   .nil) <|
 .seq (.reg <|
   .one none (.mv 56 (.t 4)) <|
   .one none (.bd 57 [(.int .i64 0), (.int .i64 0)] []) <|
   .one none (.tk 2 (.t 56)) <|
   .one none (.st 2 (.t 3) (.t 57)) <|
   .nil) <|
 .ret⟩
theorem has38 : Has Tryz.prog [] 38 ir38 := has_of Tryz.func38 (by kernel_rfl)
def ir40 : If := ⟨4, [.t 2],
 .seq (.reg <|
   .one none (.bx 1 33 1 (.t 0)) <|
   .one none (.tk 2 (.c .nilf)) <|
   .nil) <|
 .seq (.reg <|
   .one none (.mf 3 68 [] [(.t 1)]) <|
   .one none (.tk 2 (.t 3)) <|
   .nil) <|
 .ret⟩
theorem has40 : Has Tryz.prog [] 40 ir40 := has_of Tryz.func40 (by kernel_rfl)
def ir43 : If := ⟨129, [.cell 6 (some 4)],
 .seq (.reg <|
   .one none (.al 6 30 [(.int .i64 0), (.str []), (.str []), (.sl true [])]) <|
   .nil) <|
 .seq (.reg <|
   .one none (.mv 14 (.t 1)) <|
   .one none (.ca (some 15) (.c (.clo 75 [] [])) [(false, (.t 14))]) <|
   .one none (.tk 1 (.t 15)) <|
   .nil) <|
 .seq (.seq (.reg <|
    .one none (.mv 16 (.t 1)) <|
    .one none (.ln 17 false (.t 16)) <|
    .one none (.bi 18 .eql (.t 17) (.c (.int .i64 0))) <|
    .nil) <|
  .cond (.t 18) (.seq (.reg <|
     .one none (.bd 19 [(.int .i64 0), (.str []), (.str []), (.sl true [])] [(0, 1, (.c (.int .i64 1)))]) <|
     .one none (.st 4 (.t 6) (.t 19)) <|
     .nil) <|
   .ret) <|
  .skip) <|
 .seq (.seq (.reg <|
    .one none (.mv 20 (.t 2)) <|
    .one none (.bi 21 .eql (.t 20) (.c (.int .i64 64))) <|
    .nil) <|
  .cond (.t 21) (.seq (.reg <|
     .one none (.mv 22 (.t 0)) <|
     .one none (.mv 23 (.t 1)) <|
     .one none (.ia 24 3 (.t 23) (.c (.int .i64 0))) <|
     .one none (.ld 25 (some 3) (.t 24)) <|
     .one none (.ca (some 26) (.c (.clo 76 [] [])) [(false, (.t 22)), (false, (.c (.int .i64 10))), (false, (.t 25))]) <|
     .one none (.st 4 (.t 6) (.t 26)) <|
     .nil) <|
   .ret) <|
  .skip) <|
 .seq (.reg <|
   .one none (.mv 27 (.t 1)) <|
   .one none (.ia 28 3 (.t 27) (.c (.int .i64 0))) <|
   .one none (.ld 29 (some 3) (.t 28)) <|
   .one none (.al 7 48 [(.int .i64 0), (.str []), (.int .i64 0)]) <|
   .one none (.st 3 (.t 7) (.t 29)) <|
   .nil) <|
 .seq (.reg <|
   .one none (.bd 30 [(.int .i64 0), (.str []), (.str []), (.sl true [])] [(0, 1, (.c (.int .i64 5)))]) <|
   .one none (.mv 31 (.t 0)) <|
   .one none (.mf 32 77 [(.t 31)] []) <|
   .one none (.al 8 30 [(.int .i64 0), (.str []), (.str []), (.sl true [])]) <|
   .one none (.st 4 (.t 8) (.t 30)) <|
   .one none (.tk 9 (.t 32)) <|
   .nil) <|
 .seq (.seq (.reg <|
    .one none (.fa 34 1 (.t 7)) <|
    .one none (.ld 35 none (.t 34)) <|
    .one none (.ca (some 36) (.c (.clo 22 [] [])) [(false, (.t 35))]) <|
    .one none (.mv 33 (.t 36)) <|
    .one none (.ex 37 (.t 33) 0) <|
    .one none (.ex 38 (.t 33) 1) <|
    .one none (.ex 39 (.t 33) 2) <|
    .one none (.tk 10 (.t 37)) <|
    .one none (.tk 11 (.t 38)) <|
    .one none (.tk 12 (.t 39)) <|
    .nil) <|
  .seq (.reg <|
    .one none (.mv 40 (.t 12)) <|
    .one none (.no 41 .not (.t 40)) <|
    .nil) <|
  .cond (.t 41) (.seq (.seq (.reg <|
      .one none (.fa 43 1 (.t 7)) <|
      .one none (.ld 44 none (.t 43)) <|
      .one none (.ca (some 45) (.c (.clo 24 [] [])) [(false, (.t 44))]) <|
      .one none (.mv 42 (.t 45)) <|
      .one none (.ex 46 (.t 42) 0) <|
      .one none (.ex 47 (.t 42) 1) <|
      .one none (.ex 48 (.t 42) 2) <|
      .one none (.ex 49 (.t 42) 3) <|
      .one none (.tk 12 (.t 49)) <|
      .nil) <|
    .seq (.reg <|
      .one none (.mv 50 (.t 12)) <|
      .one none (.no 51 .not (.t 50)) <|
      .nil) <|
    .cond (.t 51) (.seq (.reg <|
       .one none (.mv 52 (.t 0)) <|
       .one none (.fa 53 1 (.t 7)) <|
       .one none (.mv 56 (.t 1)) <|
       .one none (.sc 57 3 (.t 56) (some (.c (.int .i64 1))) none none) <|
       .one none (.mv 58 (.t 2)) <|
       .one none (.bi 59 .sub (.t 58) (.c (.int .i64 1))) <|
       .any [
         .one none (.ld 54 none (.t 53)) <|
          .one none (.ld 55 (some 3) (.t 7)) <|
          .one none (.bd 60 [(.str []), (.int .i64 0), (.str []), (.int .i64 0), (.sl true []), (.int .i64 0)] [(0, 1, (.t 54)), (1, 3, (.t 55)), (4, 1, (.t 57)), (5, 1, (.t 59))]) <|
          .one none (.ca (some 61) (.c (.clo 78 [] [])) [(false, (.t 52)), (false, (.t 60))]) <|
          .one none (.st 4 (.t 6) (.t 61)) <|
          .nil,
         .one none (.ld 55 (some 3) (.t 7)) <|
          .one none (.ld 54 none (.t 53)) <|
          .one none (.bd 60 [(.str []), (.int .i64 0), (.str []), (.int .i64 0), (.sl true []), (.int .i64 0)] [(0, 1, (.t 54)), (1, 3, (.t 55)), (4, 1, (.t 57)), (5, 1, (.t 59))]) <|
          .one none (.ca (some 61) (.c (.clo 78 [] [])) [(false, (.t 52)), (false, (.t 60))]) <|
          .one none (.st 4 (.t 6) (.t 61)) <|
          .nil]) <|
     .ret) <|
    .skip) <|
   .reg <|
    .one none (.mv 62 (.t 0)) <|
    .one none (.mf 63 79 [(.t 62)] []) <|
    .one none (.fa 64 0 (.t 8)) <|
    .one none (.st 1 (.t 64) (.c (.int .i64 6))) <|
    .one none (.tk 9 (.t 63)) <|
    .nil) <|
  .skip) <|
 .seq (.block 0 <|
  .loop <|
  .seq (.seq (.reg <|
     .one none (.mv 65 (.t 1)) <|
     .one none (.ln 66 false (.t 65)) <|
     .one none (.bi 67 .gtr (.t 66) (.c (.int .i64 0))) <|
     .one none (.mv 68 (.t 67)) <|
     .one (some (68, true)) (.mv 69 (.t 0)) <|
     .one (some (68, true)) (.nc 70 (.t 69)) <|
     .one (some (68, true)) (.fa 71 0 (.t 70)) <|
     .one (some (68, true)) (.ld 72 (some 2) (.t 71)) <|
     .one (some (68, true)) (.bd 73 [(.int .i64 0), (.int .i64 0)] []) <|
     .one (some (68, true)) (.eq 74 false [1, 1] (.t 72) (.t 73)) <|
     .one none (.pk 75 (.t 68) (.t 74) (.c (.bool false))) <|
     .nil) <|
   .cond (.t 75) (.skip) <|
   .exit 0) <|
  .block 1 <|
  .seq (.seq (.reg <|
     .one none (.mv 76 (.t 1)) <|
     .one none (.ia 77 3 (.t 76) (.c (.int .i64 0))) <|
     .one none (.fa 78 0 (.t 77)) <|
     .one none (.fa 80 0 (.t 7)) <|
     .any [
       .one none (.ld 79 none (.t 78)) <|
        .one none (.ld 81 none (.t 80)) <|
        .one none (.bi 82 .lss (.t 79) (.t 81)) <|
        .nil,
       .one none (.ld 81 none (.t 80)) <|
        .one none (.ld 79 none (.t 78)) <|
        .one none (.bi 82 .lss (.t 79) (.t 81)) <|
        .nil]) <|
   .cond (.t 82) (.seq (.reg <|
      .one none (.mv 83 (.t 0)) <|
      .one none (.mv 84 (.t 1)) <|
      .one none (.ia 85 3 (.t 84) (.c (.int .i64 0))) <|
      .one none (.ld 86 (some 3) (.t 85)) <|
      .one none (.ca (some 87) (.c (.clo 76 [] [])) [(false, (.t 83)), (false, (.c (.int .i64 9))), (false, (.t 86))]) <|
      .one none (.st 4 (.t 6) (.t 87)) <|
      .nil) <|
    .ret) <|
   .skip) <|
  .seq (.reg <|
    .one none (.tk 13 (.c (.int .i64 1))) <|
    .nil) <|
  .seq (.block 2 <|
   .loop <|
   .seq (.seq (.reg <|
      .one none (.mv 88 (.t 13)) <|
      .one none (.mv 89 (.t 1)) <|
      .one none (.ln 90 false (.t 89)) <|
      .one none (.bi 91 .lss (.t 88) (.t 90)) <|
      .one none (.mv 92 (.t 91)) <|
      .one (some (92, true)) (.mv 93 (.t 1)) <|
      .one (some (92, true)) (.mv 94 (.t 13)) <|
      .one (some (92, true)) (.ia 95 3 (.t 93) (.t 94)) <|
      .one (some (92, true)) (.ld 96 (some 3) (.t 95)) <|
      .one (some (92, true)) (.ca (some 97) (.c (.clo 80 [] [])) [(false, (.t 96))]) <|
      .one (some (92, true)) (.mv 98 (.t 97)) <|
      .one (some (98, false)) (.mv 99 (.t 1)) <|
      .one (some (98, false)) (.mv 100 (.t 13)) <|
      .one (some (98, false)) (.ia 101 3 (.t 99) (.t 100)) <|
      .one (some (98, false)) (.fa 102 0 (.t 101)) <|
      .one (some (98, false)) (.fa 104 0 (.t 7)) <|
      .any [
        .one (some (98, false)) (.ld 103 none (.t 102)) <|
         .one (some (98, false)) (.ld 105 none (.t 104)) <|
         .one (some (98, false)) (.bi 106 .gtr (.t 103) (.t 105)) <|
         .one (some (92, true)) (.pk 107 (.t 98) (.c (.bool true)) (.t 106)) <|
         .one none (.pk 108 (.t 92) (.t 107) (.c (.bool false))) <|
         .nil,
        .one (some (98, false)) (.ld 105 none (.t 104)) <|
         .one (some (98, false)) (.ld 103 none (.t 102)) <|
         .one (some (98, false)) (.bi 106 .gtr (.t 103) (.t 105)) <|
         .one (some (92, true)) (.pk 107 (.t 98) (.c (.bool true)) (.t 106)) <|
         .one none (.pk 108 (.t 92) (.t 107) (.c (.bool false))) <|
         .nil]) <|
    .cond (.t 108) (.skip) <|
    .exit 2) <|
   .block 3 <|
   .reg <|
    .one none (.mv 109 (.t 13)) <|
    .one none (.bi 110 .add (.t 109) (.c (.int .i64 1))) <|
    .one none (.tk 13 (.t 110)) <|
    .nil) <|
  .seq (.reg <|
    .one none (.fa 111 3 (.t 8)) <|
    .one none (.mv 113 (.t 9)) <|
    .one none (.mv 114 (.t 1)) <|
    .one none (.ia 115 3 (.t 114) (.c (.int .i64 0))) <|
    .one none (.mv 117 (.t 1)) <|
    .one none (.mv 118 (.t 13)) <|
    .one none (.sc 119 3 (.t 117) (some (.c (.int .i64 1))) (some (.t 118)) none) <|
    .one none (.mv 120 (.t 2)) <|
    .any [
      .one none (.lt 112 (.t 111)) <|
       .one none (.ld 116 (some 3) (.t 115)) <|
       .one none (.bd 121 [(.str []), (.int .i64 0), (.str []), (.int .i64 0), (.sl true []), (.int .i64 0)] [(0, 1, (.c (.str []))), (1, 3, (.t 116)), (4, 1, (.t 119)), (5, 1, (.t 120))]) <|
       .one none (.ca (some 122) (.t 113) [(false, (.t 121))]) <|
       .one none (.ap 123 30 4 (.t 112) (.t 122)) <|
       .one none (.fa 124 3 (.t 8)) <|
       .one none (.st 1 (.t 124) (.t 123)) <|
       .nil,
      .one none (.ld 116 (some 3) (.t 115)) <|
       .one none (.bd 121 [(.str []), (.int .i64 0), (.str []), (.int .i64 0), (.sl true []), (.int .i64 0)] [(0, 1, (.c (.str []))), (1, 3, (.t 116)), (4, 1, (.t 119)), (5, 1, (.t 120))]) <|
       .any [
         .one none (.lt 112 (.t 111)) <|
          .one none (.ca (some 122) (.t 113) [(false, (.t 121))]) <|
          .one none (.ap 123 30 4 (.t 112) (.t 122)) <|
          .one none (.fa 124 3 (.t 8)) <|
          .one none (.st 1 (.t 124) (.t 123)) <|
          .nil,
         .one none (.ca (some 122) (.t 113) [(false, (.t 121))]) <|
          .one none (.lt 112 (.t 111)) <|
          .one none (.ap 123 30 4 (.t 112) (.t 122)) <|
          .one none (.fa 124 3 (.t 8)) <|
          .one none (.st 1 (.t 124) (.t 123)) <|
          .nil]]) <|
  .reg <|
   .one none (.mv 125 (.t 1)) <|
   .one none (.mv 126 (.t 13)) <|
   .one none (.sc 127 3 (.t 125) (some (.t 126)) none none) <|
   .one none (.tk 1 (.t 127)) <|
   .nil) <|
 .seq (.reg <|
   .one none (.ld 128 (some 4) (.t 8)) <|
   .one none (.st 4 (.t 6) (.t 128)) <|
   .nil) <|
 .ret⟩
theorem has43 : Has Tryz.prog [] 43 ir43 := has_of Tryz.func43 (by kernel_rfl)
def ir46 : If := ⟨11, [.t 4, .t 5],
 .seq (.reg <|
   .one none (.tk 4 (.c (.str []))) <|
   .one none (.tk 5 (.c (.bool false))) <|
   .nil) <|
 .seq (.reg <|
   .one none (.mv 6 (.t 0)) <|
   .one none (.mv 7 (.t 1)) <|
   .one none (.ca (some 8) (.c (.clo 86 [] [])) [(false, (.t 6)), (false, (.t 7))]) <|
   .one none (.ex 9 (.t 8) 0) <|
   .one none (.ex 10 (.t 8) 1) <|
   .one none (.tk 4 (.t 9)) <|
   .one none (.tk 5 (.t 10)) <|
   .nil) <|
 .ret⟩
theorem has46 : Has Tryz.prog [] 46 ir46 := has_of Tryz.func46 (by kernel_rfl)
def ir47 : If := ⟨37, [.t 4],
 .seq (.reg <|
   .one none (.tk 4 (.c (.str []))) <|
   .nil) <|
 .seq (.seq (.reg <|
    .one none (.mv 7 (.t 0)) <|
    .one none (.bi 8 .eql (.t 7) (.c (.str []))) <|
    .one none (.mv 9 (.t 8)) <|
    .one (some (9, false)) (.mv 10 (.t 1)) <|
    .one (some (9, false)) (.bi 11 .eql (.t 10) (.c (.str []))) <|
    .one none (.pk 12 (.t 9) (.c (.bool true)) (.t 11)) <|
    .nil) <|
  .cond (.t 12) (.seq (.reg <|
     .one none (.mv 13 (.t 0)) <|
     .one none (.tk 4 (.t 13)) <|
     .nil) <|
   .ret) <|
  .skip) <|
 .seq (.seq (.reg <|
    .one none (.mv 14 (.t 1)) <|
    .one none (.ln 15 true (.t 14)) <|
    .one none (.bi 16 .eql (.t 15) (.c (.int .i64 1))) <|
    .one none (.mv 17 (.t 16)) <|
    .one (some (17, true)) (.mv 18 (.t 1)) <|
    .one (some (17, true)) (.ix 19 (.t 18) (.c (.int .i64 0))) <|
    .one (some (17, true)) (.bi 20 .lss (.t 19) (.c (.int .u8 128))) <|
    .one none (.pk 21 (.t 17) (.t 20) (.c (.bool false))) <|
    .nil) <|
  .cond (.t 21) (.seq (.reg <|
     .one none (.mv 22 (.t 0)) <|
     .one none (.mv 23 (.t 1)) <|
     .one none (.ix 24 (.t 23) (.c (.int .i64 0))) <|
     .one none (.ca (some 25) (.c (.clo 87 [] [])) [(false, (.t 22)), (false, (.t 24))]) <|
     .one none (.tk 4 (.t 25)) <|
     .nil) <|
   .ret) <|
  .skip) <|
 .seq (.seq (.reg <|
    .one none (.mv 27 (.t 1)) <|
    .one none (.ca (some 28) (.c (.clo 88 [] [])) [(false, (.t 27))]) <|
    .one none (.mv 26 (.t 28)) <|
    .one none (.ex 29 (.t 26) 0) <|
    .one none (.ex 30 (.t 26) 1) <|
    .one none (.al 5 117 (List.replicate 256 (.bool false))) <|
    .one none (.st 256 (.t 5) (.t 29)) <|
    .one none (.tk 6 (.t 30)) <|
    .nil) <|
  .seq (.reg <|
    .one none (.mv 31 (.t 6)) <|
    .nil) <|
  .cond (.t 31) (.seq (.reg <|
     .one none (.mv 32 (.t 0)) <|
     .one none (.ca (some 33) (.c (.clo 89 [] [])) [(false, (.t 32)), (false, (.t 5))]) <|
     .one none (.tk 4 (.t 33)) <|
     .nil) <|
   .ret) <|
  .skip) <|
 .seq (.reg <|
   .one none (.mv 34 (.t 0)) <|
   .one none (.mv 35 (.t 1)) <|
   .one none (.ca (some 36) (.c (.clo 90 [] [])) [(false, (.t 34)), (false, (.t 35))]) <|
   .one none (.tk 4 (.t 36)) <|
   .nil) <|
 .ret⟩
theorem has47 : Has Tryz.prog [] 47 ir47 := has_of Tryz.func47 (by kernel_rfl)
def ir49 : If := ⟨51, [.cell 2 (some 4), .t 3, .t 4],
 .seq (.reg <|
   .one none (.al 2 30 [(.int .i64 0), (.str []), (.str []), (.sl true [])]) <|
   .one none (.tk 3 (.c (.str []))) <|
   .one none (.tk 4 (.c (.bool false))) <|
   .nil) <|
 .seq (.seq (.reg <|
    .one none (.mv 11 (.t 0)) <|
    .one none (.ca (some 12) (.c (.clo 66 [] [])) [(false, (.t 11)), (false, (.c (.str [39])))]) <|
    .one none (.mv 13 (.t 12)) <|
    .one (some (13, false)) (.mv 14 (.t 0)) <|
    .one (some (13, false)) (.ca (some 15) (.c (.clo 66 [] [])) [(false, (.t 14)), (false, (.c (.str [34])))]) <|
    .one none (.pk 16 (.t 13) (.c (.bool true)) (.t 15)) <|
    .nil) <|
  .cond (.t 16) (.seq (.reg <|
     .one none (.mv 18 (.t 0)) <|
     .one none (.ca (some 19) (.c (.clo 91 [] [])) [(false, (.t 18))]) <|
     .one none (.mv 17 (.t 19)) <|
     .one none (.ex 20 (.t 17) 0) <|
     .one none (.ex 21 (.t 17) 1) <|
     .one none (.ex 22 (.t 17) 2) <|
     .one none (.al 7 25 [(.int .i64 0), (.int .i64 0)]) <|
     .one none (.tk 5 (.t 20)) <|
     .one none (.tk 6 (.t 21)) <|
     .one none (.st 2 (.t 7) (.t 22)) <|
     .nil) <|
   .seq (.reg <|
     .one none (.mv 23 (.t 5)) <|
     .one none (.bd 24 [(.int .i64 0), (.str []), (.str []), (.sl true [])] [(0, 1, (.c (.int .i64 4))), (1, 1, (.t 23))]) <|
     .one none (.mv 25 (.t 0)) <|
     .one none (.mv 26 (.t 6)) <|
     .one none (.sc 27 0 (.t 25) (some (.t 26)) none none) <|
     .one none (.bd 30 [(.int .i64 0), (.int .i64 0)] []) <|
     .any [
       .one none (.ca (some 28) (.c (.clo 47 [] [])) [(false, (.t 27)), (false, (.c (.str [32])))]) <|
        .any [
          .one none (.ld 29 (some 2) (.t 7)) <|
           .one none (.eq 31 false [1, 1] (.t 29) (.t 30)) <|
           .one none (.st 4 (.t 2) (.t 24)) <|
           .one none (.tk 3 (.t 28)) <|
           .one none (.tk 4 (.t 31)) <|
           .nil,
          .one none (.st 4 (.t 2) (.t 24)) <|
           .any [
             .one none (.ld 29 (some 2) (.t 7)) <|
              .one none (.eq 31 false [1, 1] (.t 29) (.t 30)) <|
              .one none (.tk 3 (.t 28)) <|
              .one none (.tk 4 (.t 31)) <|
              .nil,
             .one none (.tk 3 (.t 28)) <|
              .one none (.ld 29 (some 2) (.t 7)) <|
              .one none (.eq 31 false [1, 1] (.t 29) (.t 30)) <|
              .one none (.tk 4 (.t 31)) <|
              .nil]],
       .one none (.ld 29 (some 2) (.t 7)) <|
        .one none (.eq 31 false [1, 1] (.t 29) (.t 30)) <|
        .one none (.ca (some 28) (.c (.clo 47 [] [])) [(false, (.t 27)), (false, (.c (.str [32])))]) <|
        .one none (.st 4 (.t 2) (.t 24)) <|
        .one none (.tk 3 (.t 28)) <|
        .one none (.tk 4 (.t 31)) <|
        .nil]) <|
   .ret) <|
  .skip) <|
 .seq (.reg <|
   .one none (.mv 33 (.t 0)) <|
   .one none (.ca (some 34) (.c (.clo 92 [] [])) [(false, (.t 33)), (false, (.c (.bool false)))]) <|
   .one none (.mv 32 (.t 34)) <|
   .one none (.ex 35 (.t 32) 0) <|
   .one none (.ex 36 (.t 32) 1) <|
   .one none (.tk 8 (.t 35)) <|
   .one none (.tk 9 (.t 36)) <|
   .nil) <|
 .seq (.reg <|
   .one none (.mv 37 (.t 8)) <|
   .one none (.ca (some 38) (.c (.clo 93 [] [])) [(false, (.t 37))]) <|
   .one none (.mv 39 (.t 8)) <|
   .one none (.bd 40 [(.int .i64 0), (.str []), (.str []), (.sl true [])] [(0, 1, (.t 38)), (1, 1, (.t 39))]) <|
   .one none (.al 10 30 [(.int .i64 0), (.str []), (.str []), (.sl true [])]) <|
   .one none (.st 4 (.t 10) (.t 40)) <|
   .nil) <|
 .seq (.seq (.reg <|
    .one none (.fa 41 0 (.t 10)) <|
    .one none (.ld 42 none (.t 41)) <|
    .one none (.bi 43 .eql (.t 42) (.c (.int .i64 1))) <|
    .nil) <|
  .cond (.t 43) (.reg <|
    .one none (.fa 44 1 (.t 10)) <|
    .one none (.st 1 (.t 44) (.c (.str []))) <|
    .nil) <|
  .skip) <|
 .seq (.reg <|
   .one none (.mv 46 (.t 0)) <|
   .one none (.mv 47 (.t 9)) <|
   .one none (.sc 48 0 (.t 46) (some (.t 47)) none none) <|
   .one none (.mv 49 (.t 8)) <|
   .any [
     .one none (.ld 45 (some 4) (.t 10)) <|
      .one none (.ca (some 50) (.c (.clo 94 [] [])) [(false, (.t 49)), (false, (.c (.bool false)))]) <|
      .one none (.st 4 (.t 2) (.t 45)) <|
      .one none (.tk 3 (.t 48)) <|
      .one none (.tk 4 (.t 50)) <|
      .nil,
     .one none (.ca (some 50) (.c (.clo 94 [] [])) [(false, (.t 49)), (false, (.c (.bool false)))]) <|
      .one none (.ld 45 (some 4) (.t 10)) <|
      .one none (.st 4 (.t 2) (.t 45)) <|
      .one none (.tk 3 (.t 48)) <|
      .one none (.tk 4 (.t 50)) <|
      .nil]) <|
 .ret⟩
theorem has49 : Has Tryz.prog [] 49 ir49 := has_of Tryz.func49 (by kernel_rfl)
def ir57 : If := ⟨117, [.t 6],
 .seq (.reg <|
   .one none (.bx 4 30 4 (.t 1)) <|
   .one none (.tk 6 (.c (.bool false))) <|
   .nil) <|
 .seq (.reg <|
   .one none (.mv 10 (.t 0)) <|
   .one none (.nc 11 (.t 10)) <|
   .one none (.fa 12 0 (.t 11)) <|
   .one none (.ld 13 none (.t 12)) <|
   .one none (.bi 14 .sub (.t 13) (.c (.int .i64 1))) <|
   .one none (.nc 15 (.t 10)) <|
   .one none (.fa 16 0 (.t 15)) <|
   .one none (.st 1 (.t 16) (.t 14)) <|
   .nil) <|
 .seq (.seq (.reg <|
    .one none (.mv 17 (.t 0)) <|
    .one none (.nc 18 (.t 17)) <|
    .one none (.fa 19 0 (.t 18)) <|
    .one none (.ld 20 none (.t 19)) <|
    .one none (.bi 21 .lss (.t 20) (.c (.int .i64 0))) <|
    .one none (.mv 22 (.t 21)) <|
    .one (some (22, false)) (.fa 23 0 (.t 4)) <|
    .one (some (22, false)) (.ld 24 none (.t 23)) <|
    .one (some (22, false)) (.bi 25 .lss (.t 24) (.c (.int .i64 1))) <|
    .one none (.pk 26 (.t 22) (.c (.bool true)) (.t 25)) <|
    .one none (.mv 27 (.t 26)) <|
    .one (some (27, false)) (.fa 28 0 (.t 4)) <|
    .one (some (27, false)) (.ld 29 none (.t 28)) <|
    .one (some (27, false)) (.bi 30 .gtr (.t 29) (.c (.int .i64 7))) <|
    .one none (.pk 31 (.t 27) (.c (.bool true)) (.t 30)) <|
    .one none (.mv 32 (.t 31)) <|
    .one (some (32, false)) (.fa 33 0 (.t 4)) <|
    .one (some (32, false)) (.ld 34 none (.t 33)) <|
    .one (some (32, false)) (.fa 35 1 (.t 4)) <|
    .one (some (32, false)) (.ld 36 none (.t 35)) <|
    .one (some (32, false)) (.ca (some 37) (.c (.clo 103 [] [])) [(false, (.t 34)), (false, (.t 36))]) <|
    .one (some (32, false)) (.no 38 .not (.t 37)) <|
    .one none (.pk 39 (.t 32) (.c (.bool true)) (.t 38)) <|
    .nil) <|
  .cond (.t 39) (.seq (.reg <|
     .one none (.tk 6 (.c (.bool false))) <|
     .nil) <|
   .ret) <|
  .skip) <|
 .seq (.seq (.reg <|
    .one none (.fa 40 2 (.t 4)) <|
    .one none (.ld 41 none (.t 40)) <|
    .one none (.bi 42 .neq (.t 41) (.c (.str []))) <|
    .one none (.mv 43 (.t 42)) <|
    .one (some (43, false)) (.fa 44 0 (.t 4)) <|
    .one (some (43, false)) (.ld 45 none (.t 44)) <|
    .one (some (43, false)) (.bi 46 .eql (.t 45) (.c (.int .i64 7))) <|
    .one none (.pk 47 (.t 43) (.c (.bool true)) (.t 46)) <|
    .one none (.mv 48 (.t 47)) <|
    .one (some (48, true)) (.fa 49 2 (.t 4)) <|
    .one (some (48, true)) (.ld 50 none (.t 49)) <|
    .one (some (48, true)) (.ca (some 51) (.c (.clo 104 [] [])) [(false, (.t 50))]) <|
    .one (some (48, true)) (.no 52 .not (.t 51)) <|
    .one none (.pk 53 (.t 48) (.t 52) (.c (.bool false))) <|
    .nil) <|
  .cond (.t 53) (.seq (.reg <|
     .one none (.tk 6 (.c (.bool false))) <|
     .nil) <|
   .ret) <|
  .skip) <|
 .seq (.seq (.reg <|
    .one none (.fa 54 0 (.t 4)) <|
    .one none (.ld 55 none (.t 54)) <|
    .one none (.bi 56 .neq (.t 55) (.c (.int .i64 5))) <|
    .one none (.mv 57 (.t 56)) <|
    .one (some (57, true)) (.fa 58 0 (.t 4)) <|
    .one (some (57, true)) (.ld 59 none (.t 58)) <|
    .one (some (57, true)) (.bi 60 .neq (.t 59) (.c (.int .i64 6))) <|
    .one none (.pk 61 (.t 57) (.t 60) (.c (.bool false))) <|
    .nil) <|
  .cond (.t 61) (.seq (.reg <|
     .one none (.fa 62 3 (.t 4)) <|
     .one none (.ld 63 none (.t 62)) <|
     .one none (.ln 64 false (.t 63)) <|
     .one none (.bi 65 .eql (.t 64) (.c (.int .i64 0))) <|
     .one none (.tk 6 (.t 65)) <|
     .nil) <|
   .ret) <|
  .skip) <|
 .seq (.seq (.reg <|
    .one none (.mv 66 (.t 2)) <|
    .one none (.bi 67 .eql (.t 66) (.c (.int .i64 64))) <|
    .one none (.mv 68 (.t 67)) <|
    .one (some (68, false)) (.fa 69 0 (.t 4)) <|
    .one (some (68, false)) (.ld 70 none (.t 69)) <|
    .one (some (68, false)) (.bi 71 .eql (.t 70) (.c (.int .i64 6))) <|
    .one (some (68, false)) (.mv 72 (.t 71)) <|
    .one (some (72, true)) (.fa 73 3 (.t 4)) <|
    .one (some (72, true)) (.ld 74 none (.t 73)) <|
    .one (some (72, true)) (.ln 75 false (.t 74)) <|
    .one (some (72, true)) (.bi 76 .rem (.t 75) (.c (.int .i64 2))) <|
    .one (some (72, true)) (.bi 77 .neq (.t 76) (.c (.int .i64 0))) <|
    .one (some (68, false)) (.pk 78 (.t 72) (.t 77) (.c (.bool false))) <|
    .one none (.pk 79 (.t 68) (.c (.bool true)) (.t 78)) <|
    .nil) <|
  .cond (.t 79) (.seq (.reg <|
     .one none (.tk 6 (.c (.bool false))) <|
     .nil) <|
   .ret) <|
  .skip) <|
 .seq (.seq (.reg <|
    .one none (.fa 80 3 (.t 4)) <|
    .one none (.ld 81 none (.t 80)) <|
    .one none (.ln 82 false (.t 81)) <|
    .one none (.mv 83 (.c (.int .i64 0))) <|
    .nil) <|
  .block 0 <|
  .loop <|
  .seq (.reg <|
    .one none (.bi 84 .lss (.t 83) (.t 82)) <|
    .nil) <|
  .seq (.cond (.t 84) (.skip) <|
   .exit 0) <|
  .seq (.block 1 <|
   .seq (.reg <|
     .one none (.mv 85 (.t 83)) <|
     .one none (.ia 86 4 (.t 81) (.t 83)) <|
     .one none (.ld 87 (some 4) (.t 86)) <|
     .one none (.al 8 30 [(.int .i64 0), (.str []), (.str []), (.sl true [])]) <|
     .one none (.tk 7 (.t 85)) <|
     .one none (.st 4 (.t 8) (.t 87)) <|
     .nil) <|
   .seq (.reg <|
     .one none (.fa 88 0 (.t 4)) <|
     .one none (.ld 89 none (.t 88)) <|
     .one none (.bi 90 .eql (.t 89) (.c (.int .i64 6))) <|
     .one none (.mv 91 (.t 90)) <|
     .one (some (91, true)) (.mv 92 (.t 7)) <|
     .one (some (91, true)) (.bi 93 .rem (.t 92) (.c (.int .i64 2))) <|
     .one (some (91, true)) (.bi 94 .eql (.t 93) (.c (.int .i64 0))) <|
     .one none (.pk 95 (.t 91) (.t 94) (.c (.bool false))) <|
     .one none (.tk 9 (.t 95)) <|
     .nil) <|
   .seq (.reg <|
     .one none (.mv 96 (.t 9)) <|
     .one none (.mv 97 (.t 96)) <|
     .one (some (97, true)) (.fa 98 0 (.t 8)) <|
     .one (some (97, true)) (.ld 99 none (.t 98)) <|
     .one (some (97, true)) (.ca (some 100) (.c (.clo 105 [] [])) [(false, (.t 99))]) <|
     .one (some (97, true)) (.no 101 .not (.t 100)) <|
     .one (some (97, true)) (.mv 102 (.t 101)) <|
     .one (some (102, false)) (.fa 103 2 (.t 8)) <|
     .one (some (102, false)) (.ld 104 none (.t 103)) <|
     .one (some (102, false)) (.bi 105 .neq (.t 104) (.c (.str []))) <|
     .one (some (97, true)) (.pk 106 (.t 102) (.c (.bool true)) (.t 105)) <|
     .one none (.pk 107 (.t 97) (.t 106) (.c (.bool false))) <|
     .one none (.mv 108 (.t 107)) <|
     .one (some (108, false)) (.mv 109 (.t 0)) <|
     .one (some (108, false)) (.ld 110 (some 4) (.t 8)) <|
     .one (some (108, false)) (.mv 111 (.t 2)) <|
     .one (some (108, false)) (.bi 112 .add (.t 111) (.c (.int .i64 1))) <|
     .one (some (108, false)) (.ca (some 113) (.c (.clo 57 [] [])) [(false, (.t 109)), (false, (.t 110)), (false, (.t 112))]) <|
     .one (some (108, false)) (.no 114 .not (.t 113)) <|
     .one none (.pk 115 (.t 108) (.c (.bool true)) (.t 114)) <|
     .nil) <|
   .cond (.t 115) (.seq (.reg <|
      .one none (.tk 6 (.c (.bool false))) <|
      .nil) <|
    .ret) <|
   .skip) <|
  .reg <|
   .one none (.bi 116 .add (.t 83) (.c (.int .i64 1))) <|
   .one none (.mv 83 (.t 116)) <|
   .nil) <|
 .seq (.reg <|
   .one none (.tk 6 (.c (.bool true))) <|
   .nil) <|
 .ret⟩
theorem has57 : Has Tryz.prog [] 57 ir57 := has_of Tryz.func57 (by kernel_rfl)
def ir58 : If := ⟨11, [.t 2],
 .seq (.reg <|
   .one none (.bx 1 48 3 (.t 0)) <|
   .one none (.tk 2 (.c (.bool false))) <|
   .nil) <|
 .seq (.reg <|
   .one none (.fa 3 0 (.t 1)) <|
   .one none (.ld 4 none (.t 3)) <|
   .one none (.bi 5 .eql (.t 4) (.c (.int .i64 0))) <|
   .one none (.mv 6 (.t 5)) <|
   .one (some (6, true)) (.fa 7 1 (.t 1)) <|
   .one (some (6, true)) (.ld 8 none (.t 7)) <|
   .one (some (6, true)) (.bi 9 .eql (.t 8) (.c (.str [45, 45, 45]))) <|
   .one none (.pk 10 (.t 6) (.t 9) (.c (.bool false))) <|
   .one none (.tk 2 (.t 10)) <|
   .nil) <|
 .ret⟩
theorem has58 : Has Tryz.prog [] 58 ir58 := has_of Tryz.func58 (by kernel_rfl)
def ir59 : If := ⟨16, [.t 2],
 .seq (.reg <|
   .one none (.tk 2 (.c (.bool false))) <|
   .nil) <|
 .seq (.seq (.reg <|
    .one none (.tk 3 (.c (.int .i64 0))) <|
    .nil) <|
  .block 0 <|
  .loop <|
  .seq (.seq (.reg <|
     .one none (.mv 4 (.t 3)) <|
     .one none (.mv 5 (.t 0)) <|
     .one none (.ln 6 false (.t 5)) <|
     .one none (.bi 7 .lss (.t 4) (.t 6)) <|
     .nil) <|
   .cond (.t 7) (.skip) <|
   .exit 0) <|
  .seq (.block 1 <|
   .seq (.reg <|
     .one none (.mv 10 (.t 0)) <|
     .one none (.mv 11 (.t 3)) <|
     .one none (.ia 12 3 (.t 10) (.t 11)) <|
     .one none (.ld 13 (some 3) (.t 12)) <|
     .one none (.ca (some 14) (.c (.clo 28 [] [])) [(false, (.t 13))]) <|
     .one none (.no 15 .not (.t 14)) <|
     .nil) <|
   .cond (.t 15) (.seq (.reg <|
      .one none (.tk 2 (.c (.bool true))) <|
      .nil) <|
    .ret) <|
   .skip) <|
  .reg <|
   .one none (.mv 8 (.t 3)) <|
   .one none (.bi 9 .add (.t 8) (.c (.int .i64 1))) <|
   .one none (.tk 3 (.t 9)) <|
   .nil) <|
 .seq (.reg <|
   .one none (.tk 2 (.c (.bool false))) <|
   .nil) <|
 .ret⟩
theorem has59 : Has Tryz.prog [] 59 ir59 := has_of Tryz.func59 (by kernel_rfl)
def ir63 : If := ⟨7, [.cell 2 (some 2)],
 .seq (.reg <|
   .one none (.al 2 25 [(.int .i64 0), (.int .i64 0)]) <|
   .nil) <|
 .seq (.reg <|
   .one none (.mv 3 (.t 0)) <|
   .one none (.mv 4 (.t 0)) <|
   .one none (.ca (some 5) (.c (.clo 112 [] [])) [(false, (.t 4)), (false, (.c (.clo 113 [] [])))]) <|
   .one none (.ca (some 6) (.c (.clo 111 [] [])) [(false, (.t 3)), (false, (.t 5))]) <|
   .one none (.st 2 (.t 2) (.t 6)) <|
   .nil) <|
 .ret⟩
theorem has63 : Has Tryz.prog [] 63 ir63 := has_of Tryz.func63 (by kernel_rfl)
def ir65 : If := ⟨37, [.t 4],
 .seq (.reg <|
   .one none (.tk 4 (.c (.str []))) <|
   .nil) <|
 .seq (.seq (.reg <|
    .one none (.mv 7 (.t 0)) <|
    .one none (.bi 8 .eql (.t 7) (.c (.str []))) <|
    .one none (.mv 9 (.t 8)) <|
    .one (some (9, false)) (.mv 10 (.t 1)) <|
    .one (some (9, false)) (.bi 11 .eql (.t 10) (.c (.str []))) <|
    .one none (.pk 12 (.t 9) (.c (.bool true)) (.t 11)) <|
    .nil) <|
  .cond (.t 12) (.seq (.reg <|
     .one none (.mv 13 (.t 0)) <|
     .one none (.tk 4 (.t 13)) <|
     .nil) <|
   .ret) <|
  .skip) <|
 .seq (.seq (.reg <|
    .one none (.mv 14 (.t 1)) <|
    .one none (.ln 15 true (.t 14)) <|
    .one none (.bi 16 .eql (.t 15) (.c (.int .i64 1))) <|
    .one none (.mv 17 (.t 16)) <|
    .one (some (17, true)) (.mv 18 (.t 1)) <|
    .one (some (17, true)) (.ix 19 (.t 18) (.c (.int .i64 0))) <|
    .one (some (17, true)) (.bi 20 .lss (.t 19) (.c (.int .u8 128))) <|
    .one none (.pk 21 (.t 17) (.t 20) (.c (.bool false))) <|
    .nil) <|
  .cond (.t 21) (.seq (.reg <|
     .one none (.mv 22 (.t 0)) <|
     .one none (.mv 23 (.t 1)) <|
     .one none (.ix 24 (.t 23) (.c (.int .i64 0))) <|
     .one none (.ca (some 25) (.c (.clo 115 [] [])) [(false, (.t 22)), (false, (.t 24))]) <|
     .one none (.tk 4 (.t 25)) <|
     .nil) <|
   .ret) <|
  .skip) <|
 .seq (.seq (.reg <|
    .one none (.mv 27 (.t 1)) <|
    .one none (.ca (some 28) (.c (.clo 88 [] [])) [(false, (.t 27))]) <|
    .one none (.mv 26 (.t 28)) <|
    .one none (.ex 29 (.t 26) 0) <|
    .one none (.ex 30 (.t 26) 1) <|
    .one none (.al 5 117 (List.replicate 256 (.bool false))) <|
    .one none (.st 256 (.t 5) (.t 29)) <|
    .one none (.tk 6 (.t 30)) <|
    .nil) <|
  .seq (.reg <|
    .one none (.mv 31 (.t 6)) <|
    .nil) <|
  .cond (.t 31) (.seq (.reg <|
     .one none (.mv 32 (.t 0)) <|
     .one none (.ca (some 33) (.c (.clo 116 [] [])) [(false, (.t 32)), (false, (.t 5))]) <|
     .one none (.tk 4 (.t 33)) <|
     .nil) <|
   .ret) <|
  .skip) <|
 .seq (.reg <|
   .one none (.mv 34 (.t 0)) <|
   .one none (.mv 35 (.t 1)) <|
   .one none (.ca (some 36) (.c (.clo 117 [] [])) [(false, (.t 34)), (false, (.t 35))]) <|
   .one none (.tk 4 (.t 36)) <|
   .nil) <|
 .ret⟩
theorem has65 : Has Tryz.prog [] 65 ir65 := has_of Tryz.func65 (by kernel_rfl)
def ir66 : If := ⟨8, [.t 4],
 .seq (.reg <|
   .one none (.tk 4 (.c (.bool false))) <|
   .nil) <|
 .seq (.reg <|
   .one none (.mv 5 (.t 0)) <|
   .one none (.mv 6 (.t 1)) <|
   .one none (.ca (some 7) (.c (.clo 118 [] [])) [(false, (.t 5)), (false, (.t 6))]) <|
   .one none (.tk 4 (.t 7)) <|
   .nil) <|
 .ret⟩
theorem has66 : Has Tryz.prog [] 66 ir66 := has_of Tryz.func66 (by kernel_rfl)
end Gx

/- Part Ir2. -/
open Go Go.Proofs Gx
namespace Gx
def ir67 : If := ⟨33, [.cell 4 (some 4), .t 5, .cell 6 (some 2)],
 .seq (.reg <|
   .one none (.al 4 30 [(.int .i64 0), (.str []), (.str []), (.sl true [])]) <|
   .one none (.tk 5 (.c (.int .i64 0))) <|
   .one none (.al 6 25 [(.int .i64 0), (.int .i64 0)]) <|
   .nil) <|
 .seq (.reg <|
   .one none (.mv 9 (.t 0)) <|
   .one none (.ln 10 true (.t 9)) <|
   .one none (.mv 11 (.t 0)) <|
   .one none (.bd 12 [(.int .i64 0), (.str []), (.int .i64 0), (.int .i64 0)] [(0, 1, (.t 10)), (1, 1, (.t 11))]) <|
   .one none (.bx 13 141 4 (.t 12)) <|
   .one none (.tk 7 (.t 13)) <|
   .nil) <|
 .seq (.reg <|
   .one none (.mv 14 (.t 7)) <|
   .one none (.mv 15 (.t 1)) <|
   .one none (.ca (some 16) (.c (.clo 119 [] [])) [(false, (.t 14)), (false, (.t 15)), (false, (.c (.int .i64 0)))]) <|
   .one none (.al 8 30 [(.int .i64 0), (.str []), (.str []), (.sl true [])]) <|
   .one none (.st 4 (.t 8) (.t 16)) <|
   .nil) <|
 .seq (.seq (.reg <|
    .one none (.mv 17 (.t 7)) <|
    .one none (.ca (some 18) (.c (.clo 120 [] [])) [(false, (.t 17))]) <|
    .one none (.no 19 .not (.t 18)) <|
    .nil) <|
  .cond (.t 19) (.seq (.reg <|
     .one none (.bd 20 [(.int .i64 0), (.str []), (.str []), (.sl true [])] []) <|
     .one none (.mv 21 (.t 7)) <|
     .one none (.nc 22 (.t 21)) <|
     .one none (.fa 23 2 (.t 22)) <|
     .any [
       .one none (.ld 24 (some 2) (.t 23)) <|
        .one none (.st 4 (.t 4) (.t 20)) <|
        .one none (.tk 5 (.c (.int .i64 0))) <|
        .one none (.st 2 (.t 6) (.t 24)) <|
        .nil,
       .one none (.st 4 (.t 4) (.t 20)) <|
        .one none (.tk 5 (.c (.int .i64 0))) <|
        .one none (.ld 24 (some 2) (.t 23)) <|
        .one none (.st 2 (.t 6) (.t 24)) <|
        .nil]) <|
   .ret) <|
  .skip) <|
 .seq (.reg <|
   .one none (.mv 26 (.t 0)) <|
   .one none (.mv 27 (.t 7)) <|
   .one none (.bd 32 [(.int .i64 0), (.int .i64 0)] []) <|
   .any [
     .one none (.ld 25 (some 4) (.t 8)) <|
      .one none (.ca (some 28) (.c (.clo 121 [] [])) [(false, (.t 27))]) <|
      .one none (.sc 29 0 (.t 26) none (some (.t 28)) none) <|
      .one none (.ca (some 30) (.c (.clo 65 [] [])) [(false, (.t 29)), (false, (.c (.str [32])))]) <|
      .one none (.ln 31 true (.t 30)) <|
      .one none (.st 4 (.t 4) (.t 25)) <|
      .one none (.tk 5 (.t 31)) <|
      .one none (.st 2 (.t 6) (.t 32)) <|
      .nil,
     .one none (.ca (some 28) (.c (.clo 121 [] [])) [(false, (.t 27))]) <|
      .one none (.sc 29 0 (.t 26) none (some (.t 28)) none) <|
      .any [
        .one none (.ld 25 (some 4) (.t 8)) <|
         .one none (.ca (some 30) (.c (.clo 65 [] [])) [(false, (.t 29)), (false, (.c (.str [32])))]) <|
         .one none (.ln 31 true (.t 30)) <|
         .one none (.st 4 (.t 4) (.t 25)) <|
         .one none (.tk 5 (.t 31)) <|
         .one none (.st 2 (.t 6) (.t 32)) <|
         .nil,
        .one none (.ca (some 30) (.c (.clo 65 [] [])) [(false, (.t 29)), (false, (.c (.str [32])))]) <|
         .one none (.ln 31 true (.t 30)) <|
         .one none (.ld 25 (some 4) (.t 8)) <|
         .one none (.st 4 (.t 4) (.t 25)) <|
         .one none (.tk 5 (.t 31)) <|
         .one none (.st 2 (.t 6) (.t 32)) <|
         .nil]]) <|
 .ret⟩
theorem has67 : Has Tryz.prog [] 67 ir67 := has_of Tryz.func67 (by kernel_rfl)
def ir68 : If := ⟨43, [],
 .seq (.reg <|
   .one none (.tk 3 (.c (.int .i64 0))) <|
   .nil) <|
 .block 0 <|
 .loop <|
 .seq (.seq (.reg <|
    .one none (.mv 6 (.t 3)) <|
    .one none (.ld 7 none (.t 1)) <|
    .one none (.ln 8 false (.t 7)) <|
    .one none (.bi 9 .leq (.t 6) (.t 8)) <|
    .nil) <|
  .cond (.t 9) (.skip) <|
  .exit 0) <|
 .block 1 <|
 .seq (.reg <|
   .one none (.ld 10 none (.t 1)) <|
   .one none (.mv 11 (.t 3)) <|
   .one none (.sc 12 3 (.t 10) (some (.t 11)) none none) <|
   .one none (.ca (some 13) (.c (.clo 69 [] [])) [(false, (.t 12)), (false, (.c (.clo 70 [] [])))]) <|
   .one none (.tk 4 (.t 13)) <|
   .nil) <|
 .seq (.seq (.reg <|
    .one none (.mv 14 (.t 4)) <|
    .one none (.bi 15 .lss (.t 14) (.c (.int .i64 0))) <|
    .nil) <|
  .cond (.t 15) (.reg <|
    .one none (.ld 16 none (.t 1)) <|
    .one none (.ln 17 false (.t 16)) <|
    .one none (.mv 18 (.t 3)) <|
    .one none (.bi 19 .sub (.t 17) (.t 18)) <|
    .one none (.tk 4 (.t 19)) <|
    .nil) <|
  .skip) <|
 .seq (.reg <|
   .one none (.ld 20 none (.t 1)) <|
   .one none (.mv 21 (.t 3)) <|
   .one none (.mv 22 (.t 3)) <|
   .one none (.mv 23 (.t 4)) <|
   .one none (.bi 24 .add (.t 22) (.t 23)) <|
   .one none (.sc 25 3 (.t 20) (some (.t 21)) (some (.t 24)) none) <|
   .one none (.tk 5 (.t 25)) <|
   .nil) <|
 .seq (.seq (.reg <|
    .one none (.mv 26 (.t 3)) <|
    .one none (.bi 27 .gtr (.t 26) (.c (.int .i64 0))) <|
    .one none (.mv 28 (.t 27)) <|
    .one (some (28, false)) (.mv 29 (.t 5)) <|
    .one (some (28, false)) (.ca (some 30) (.c (.clo 71 [] [])) [(false, (.t 29)), (false, (.c (.clo 72 [] [])))]) <|
    .one none (.pk 31 (.t 28) (.c (.bool true)) (.t 30)) <|
    .one none (.mv 32 (.t 31)) <|
    .one (some (32, true)) (.mv 33 (.t 0)) <|
    .one (some (32, true)) (.mv 34 (.t 3)) <|
    .one (some (32, true)) (.mv 35 (.t 5)) <|
    .one (some (32, true)) (.ca (some 36) (.t 33) [(false, (.t 34)), (false, (.t 35))]) <|
    .one (some (32, true)) (.no 37 .not (.t 36)) <|
    .one none (.pk 38 (.t 32) (.t 37) (.c (.bool false))) <|
    .nil) <|
  .cond (.t 38) (.ret) <|
  .skip) <|
 .reg <|
  .one none (.mv 39 (.t 3)) <|
  .one none (.mv 40 (.t 4)) <|
  .one none (.bi 41 .add (.t 40) (.c (.int .i64 1))) <|
  .one none (.bi 42 .add (.t 39) (.t 41)) <|
  .one none (.tk 3 (.t 42)) <|
  .nil⟩
theorem has68 : Has Tryz.prog [] 68 ir68 := has_of Tryz.func68 (by kernel_rfl)
def ir69 : If := ⟨19, [.t 4],
 .seq (.reg <|
   .one none (.tk 4 (.c (.int .i64 0))) <|
   .nil) <|
 .seq (.seq (.reg <|
    .one none (.mv 6 (.t 0)) <|
    .one none (.ln 7 false (.t 6)) <|
    .one none (.mv 8 (.c (.int .i64 0))) <|
    .nil) <|
  .block 0 <|
  .loop <|
  .seq (.reg <|
    .one none (.bi 9 .lss (.t 8) (.t 7)) <|
    .nil) <|
  .seq (.cond (.t 9) (.skip) <|
   .exit 0) <|
  .seq (.block 1 <|
   .seq (.reg <|
     .one none (.mv 10 (.t 8)) <|
     .one none (.tk 5 (.t 10)) <|
     .nil) <|
   .seq (.reg <|
     .one none (.mv 11 (.t 1)) <|
     .one none (.mv 12 (.t 0)) <|
     .one none (.mv 13 (.t 5)) <|
     .one none (.ia 14 3 (.t 12) (.t 13)) <|
     .one none (.ld 15 (some 3) (.t 14)) <|
     .one none (.ca (some 16) (.t 11) [(false, (.t 15))]) <|
     .nil) <|
   .cond (.t 16) (.seq (.reg <|
      .one none (.mv 17 (.t 5)) <|
      .one none (.tk 4 (.t 17)) <|
      .nil) <|
    .ret) <|
   .skip) <|
  .reg <|
   .one none (.bi 18 .add (.t 8) (.c (.int .i64 1))) <|
   .one none (.mv 8 (.t 18)) <|
   .nil) <|
 .seq (.reg <|
   .one none (.tk 4 (.c (.int .i64 (-1)))) <|
   .nil) <|
 .ret⟩
theorem has69 : Has Tryz.prog [] 69 ir69 := has_of Tryz.func69 (by kernel_rfl)
def ir70 : If := ⟨11, [.t 2],
 .seq (.reg <|
   .one none (.bx 1 48 3 (.t 0)) <|
   .one none (.tk 2 (.c (.bool false))) <|
   .nil) <|
 .seq (.reg <|
   .one none (.fa 3 0 (.t 1)) <|
   .one none (.ld 4 none (.t 3)) <|
   .one none (.bi 5 .eql (.t 4) (.c (.int .i64 0))) <|
   .one none (.mv 6 (.t 5)) <|
   .one (some (6, true)) (.fa 7 1 (.t 1)) <|
   .one (some (6, true)) (.ld 8 none (.t 7)) <|
   .one (some (6, true)) (.bi 9 .eql (.t 8) (.c (.str [45, 45, 45]))) <|
   .one none (.pk 10 (.t 6) (.t 9) (.c (.bool false))) <|
   .one none (.tk 2 (.t 10)) <|
   .nil) <|
 .ret⟩
theorem has70 : Has Tryz.prog [] 70 ir70 := has_of Tryz.func70 (by kernel_rfl)
def ir71 : If := ⟨9, [.t 4],
 .seq (.reg <|
   .one none (.tk 4 (.c (.bool false))) <|
   .nil) <|
 .seq (.reg <|
   .one none (.mv 5 (.t 0)) <|
   .one none (.mv 6 (.t 1)) <|
   .one none (.ca (some 7) (.c (.clo 69 [] [])) [(false, (.t 5)), (false, (.t 6))]) <|
   .one none (.bi 8 .geq (.t 7) (.c (.int .i64 0))) <|
   .one none (.tk 4 (.t 8)) <|
   .nil) <|
 .ret⟩
theorem has71 : Has Tryz.prog [] 71 ir71 := has_of Tryz.func71 (by kernel_rfl)
def ir72 : If := ⟨12, [.t 2],
 .seq (.reg <|
   .one none (.bx 1 48 3 (.t 0)) <|
   .one none (.tk 2 (.c (.bool false))) <|
   .nil) <|
 .seq (.reg <|
   .one none (.fa 3 1 (.t 1)) <|
   .one none (.ld 4 none (.t 3)) <|
   .one none (.bi 5 .neq (.t 4) (.c (.str []))) <|
   .one none (.mv 6 (.t 5)) <|
   .one (some (6, true)) (.fa 7 1 (.t 1)) <|
   .one (some (6, true)) (.ld 8 none (.t 7)) <|
   .one (some (6, true)) (.ix 9 (.t 8) (.c (.int .i64 0))) <|
   .one (some (6, true)) (.bi 10 .neq (.t 9) (.c (.int .u8 35))) <|
   .one none (.pk 11 (.t 6) (.t 10) (.c (.bool false))) <|
   .one none (.tk 2 (.t 11)) <|
   .nil) <|
 .ret⟩
theorem has72 : Has Tryz.prog [] 72 ir72 := has_of Tryz.func72 (by kernel_rfl)
def ir75 : If := ⟨11, [.t 2],
 .seq (.reg <|
   .one none (.tk 2 (.c (.sl true []))) <|
   .nil) <|
 .seq (.reg <|
   .one none (.mv 4 (.t 0)) <|
   .one none (.ca (some 5) (.c (.clo 69 [] [])) [(false, (.t 4)), (false, (.c (.clo 125 [] [])))]) <|
   .one none (.tk 3 (.t 5)) <|
   .nil) <|
 .seq (.seq (.reg <|
    .one none (.mv 6 (.t 3)) <|
    .one none (.bi 7 .lss (.t 6) (.c (.int .i64 0))) <|
    .nil) <|
  .cond (.t 7) (.seq (.reg <|
     .one none (.tk 2 (.c (.sl true []))) <|
     .nil) <|
   .ret) <|
  .skip) <|
 .seq (.reg <|
   .one none (.mv 8 (.t 0)) <|
   .one none (.mv 9 (.t 3)) <|
   .one none (.sc 10 3 (.t 8) (some (.t 9)) none none) <|
   .one none (.tk 2 (.t 10)) <|
   .nil) <|
 .ret⟩
theorem has75 : Has Tryz.prog [] 75 ir75 := has_of Tryz.func75 (by kernel_rfl)
def ir76 : If := ⟨21, [.cell 6 (some 4)],
 .seq (.reg <|
   .one none (.bx 5 48 3 (.t 2)) <|
   .one none (.al 6 30 [(.int .i64 0), (.str []), (.str []), (.sl true [])]) <|
   .nil) <|
 .seq (.seq (.reg <|
    .one none (.mv 7 (.t 0)) <|
    .one none (.nc 8 (.t 7)) <|
    .one none (.fa 9 0 (.t 8)) <|
    .one none (.ld 10 (some 2) (.t 9)) <|
    .one none (.bd 11 [(.int .i64 0), (.int .i64 0)] []) <|
    .one none (.eq 12 false [1, 1] (.t 10) (.t 11)) <|
    .nil) <|
  .cond (.t 12) (.reg <|
    .one none (.mv 13 (.t 0)) <|
    .one none (.mv 14 (.t 1)) <|
    .one none (.fa 15 2 (.t 5)) <|
    .one none (.ld 16 none (.t 15)) <|
    .one none (.bd 17 [(.int .i64 0), (.int .i64 0)] [(0, 1, (.t 14)), (1, 1, (.t 16))]) <|
    .one none (.nc 18 (.t 13)) <|
    .one none (.fa 19 0 (.t 18)) <|
    .one none (.st 2 (.t 19) (.t 17)) <|
    .nil) <|
  .skip) <|
 .seq (.reg <|
   .one none (.bd 20 [(.int .i64 0), (.str []), (.str []), (.sl true [])] []) <|
   .one none (.st 4 (.t 6) (.t 20)) <|
   .nil) <|
 .ret⟩
theorem has76 : Has Tryz.prog [] 76 ir76 := has_of Tryz.func76 (by kernel_rfl)
def ir77 : If := ⟨75, [.t 4],
 .seq (.reg <|
   .one none (.bx 3 110 6 (.t 1)) <|
   .one none (.tk 4 (.c (.sl true []))) <|
   .nil) <|
 .seq (.reg <|
   .one none (.fa 17 1 (.t 3)) <|
   .one none (.fa 18 1 (.t 17)) <|
   .one none (.ld 19 none (.t 18)) <|
   .one none (.ca (some 20) (.c (.clo 22 [] [])) [(false, (.t 19))]) <|
   .one none (.mv 16 (.t 20)) <|
   .one none (.ex 21 (.t 16) 0) <|
   .one none (.ex 22 (.t 16) 1) <|
   .one none (.ex 23 (.t 16) 2) <|
   .one none (.tk 5 (.t 21)) <|
   .one none (.tk 6 (.t 22)) <|
   .one none (.tk 7 (.t 23)) <|
   .nil) <|
 .seq (.seq (.reg <|
    .one none (.mv 24 (.t 7)) <|
    .one none (.no 25 .not (.t 24)) <|
    .nil) <|
  .cond (.t 25) (.seq (.reg <|
     .one none (.mv 26 (.t 0)) <|
     .one none (.fa 27 1 (.t 3)) <|
     .one none (.ld 28 (some 3) (.t 27)) <|
     .one none (.ca (some 29) (.c (.clo 76 [] [])) [(false, (.t 26)), (false, (.c (.int .i64 3))), (false, (.t 28))]) <|
     .nil) <|
   .seq (.reg <|
     .one none (.tk 4 (.c (.sl true []))) <|
     .nil) <|
   .ret) <|
  .skip) <|
 .seq (.reg <|
   .one none (.mv 30 (.t 5)) <|
   .one none (.fa 31 0 (.t 3)) <|
   .one none (.st 1 (.t 31) (.t 30)) <|
   .nil) <|
 .seq (.reg <|
   .one none (.mv 33 (.t 5)) <|
   .one none (.ca (some 34) (.c (.clo 22 [] [])) [(false, (.t 33))]) <|
   .one none (.mv 32 (.t 34)) <|
   .one none (.ex 35 (.t 32) 0) <|
   .one none (.ex 36 (.t 32) 1) <|
   .one none (.ex 37 (.t 32) 2) <|
   .one none (.tk 8 (.t 35)) <|
   .one none (.tk 9 (.t 36)) <|
   .one none (.tk 10 (.t 37)) <|
   .nil) <|
 .seq (.seq (.reg <|
    .one none (.mv 39 (.t 5)) <|
    .one none (.ca (some 40) (.c (.clo 24 [] [])) [(false, (.t 39))]) <|
    .one none (.mv 38 (.t 40)) <|
    .one none (.ex 41 (.t 38) 0) <|
    .one none (.ex 42 (.t 38) 1) <|
    .one none (.ex 43 (.t 38) 2) <|
    .one none (.ex 44 (.t 38) 3) <|
    .one none (.al 11 30 [(.int .i64 0), (.str []), (.str []), (.sl true [])]) <|
    .one none (.st 4 (.t 11) (.t 41)) <|
    .one none (.tk 12 (.t 42)) <|
    .one none (.tk 13 (.t 43)) <|
    .one none (.tk 14 (.t 44)) <|
    .nil) <|
  .seq (.reg <|
    .one none (.mv 45 (.t 10)) <|
    .one none (.mv 46 (.t 45)) <|
    .one (some (46, false)) (.mv 47 (.t 14)) <|
    .one none (.pk 48 (.t 46) (.c (.bool true)) (.t 47)) <|
    .nil) <|
  .cond (.t 48) (.seq (.reg <|
     .one none (.fa 49 1 (.t 3)) <|
     .one none (.fa 50 0 (.t 49)) <|
     .one none (.ld 51 none (.t 50)) <|
     .one none (.mv 52 (.t 6)) <|
     .one none (.bi 53 .add (.t 51) (.t 52)) <|
     .one none (.mv 54 (.t 5)) <|
     .one none (.fa 55 1 (.t 3)) <|
     .one none (.fa 56 2 (.t 55)) <|
     .one none (.ld 57 none (.t 56)) <|
     .one none (.bd 58 [(.int .i64 0), (.str []), (.int .i64 0)] [(0, 1, (.t 53)), (1, 1, (.t 54)), (2, 1, (.t 57))]) <|
     .one none (.al 15 48 [(.int .i64 0), (.str []), (.int .i64 0)]) <|
     .one none (.st 3 (.t 15) (.t 58)) <|
     .nil) <|
   .seq (.reg <|
     .one none (.mv 59 (.t 0)) <|
     .one none (.fa 62 4 (.t 3)) <|
     .one none (.fa 66 5 (.t 3)) <|
     .any [
       .one none (.ld 60 (some 3) (.t 15)) <|
        .any [
          .one none (.bs 61 48 3 [(.t 60)]) <|
           .any [
             .one none (.ld 63 none (.t 62)) <|
              .any [
                .one none (.bs 64 33 1 [(.t 61), (.t 63)]) <|
                 .any [
                   .one none (.ca (some 65) (.c (.clo 126 [] [])) [(false, (.t 64))]) <|
                    .one none (.ld 67 none (.t 66)) <|
                    .one none (.bi 68 .add (.t 67) (.c (.int .i64 1))) <|
                    .one none (.ca (some 69) (.c (.clo 43 [] [])) [(false, (.t 59)), (false, (.t 65)), (false, (.t 68))]) <|
                    .one none (.bs 70 30 4 [(.t 69)]) <|
                    .one none (.tk 4 (.t 70)) <|
                    .nil,
                   .one none (.ld 67 none (.t 66)) <|
                    .one none (.bi 68 .add (.t 67) (.c (.int .i64 1))) <|
                    .one none (.ca (some 65) (.c (.clo 126 [] [])) [(false, (.t 64))]) <|
                    .one none (.ca (some 69) (.c (.clo 43 [] [])) [(false, (.t 59)), (false, (.t 65)), (false, (.t 68))]) <|
                    .one none (.bs 70 30 4 [(.t 69)]) <|
                    .one none (.tk 4 (.t 70)) <|
                    .nil],
                .one none (.ld 67 none (.t 66)) <|
                 .one none (.bi 68 .add (.t 67) (.c (.int .i64 1))) <|
                 .one none (.bs 64 33 1 [(.t 61), (.t 63)]) <|
                 .one none (.ca (some 65) (.c (.clo 126 [] [])) [(false, (.t 64))]) <|
                 .one none (.ca (some 69) (.c (.clo 43 [] [])) [(false, (.t 59)), (false, (.t 65)), (false, (.t 68))]) <|
                 .one none (.bs 70 30 4 [(.t 69)]) <|
                 .one none (.tk 4 (.t 70)) <|
                 .nil],
             .one none (.ld 67 none (.t 66)) <|
              .one none (.bi 68 .add (.t 67) (.c (.int .i64 1))) <|
              .one none (.ld 63 none (.t 62)) <|
              .one none (.bs 64 33 1 [(.t 61), (.t 63)]) <|
              .one none (.ca (some 65) (.c (.clo 126 [] [])) [(false, (.t 64))]) <|
              .one none (.ca (some 69) (.c (.clo 43 [] [])) [(false, (.t 59)), (false, (.t 65)), (false, (.t 68))]) <|
              .one none (.bs 70 30 4 [(.t 69)]) <|
              .one none (.tk 4 (.t 70)) <|
              .nil],
          .one none (.ld 63 none (.t 62)) <|
           .any [
             .one none (.bs 61 48 3 [(.t 60)]) <|
              .any [
                .one none (.bs 64 33 1 [(.t 61), (.t 63)]) <|
                 .any [
                   .one none (.ca (some 65) (.c (.clo 126 [] [])) [(false, (.t 64))]) <|
                    .one none (.ld 67 none (.t 66)) <|
                    .one none (.bi 68 .add (.t 67) (.c (.int .i64 1))) <|
                    .one none (.ca (some 69) (.c (.clo 43 [] [])) [(false, (.t 59)), (false, (.t 65)), (false, (.t 68))]) <|
                    .one none (.bs 70 30 4 [(.t 69)]) <|
                    .one none (.tk 4 (.t 70)) <|
                    .nil,
                   .one none (.ld 67 none (.t 66)) <|
                    .one none (.bi 68 .add (.t 67) (.c (.int .i64 1))) <|
                    .one none (.ca (some 65) (.c (.clo 126 [] [])) [(false, (.t 64))]) <|
                    .one none (.ca (some 69) (.c (.clo 43 [] [])) [(false, (.t 59)), (false, (.t 65)), (false, (.t 68))]) <|
                    .one none (.bs 70 30 4 [(.t 69)]) <|
                    .one none (.tk 4 (.t 70)) <|
                    .nil],
                .one none (.ld 67 none (.t 66)) <|
                 .one none (.bi 68 .add (.t 67) (.c (.int .i64 1))) <|
                 .one none (.bs 64 33 1 [(.t 61), (.t 63)]) <|
                 .one none (.ca (some 65) (.c (.clo 126 [] [])) [(false, (.t 64))]) <|
                 .one none (.ca (some 69) (.c (.clo 43 [] [])) [(false, (.t 59)), (false, (.t 65)), (false, (.t 68))]) <|
                 .one none (.bs 70 30 4 [(.t 69)]) <|
                 .one none (.tk 4 (.t 70)) <|
                 .nil],
             .one none (.ld 67 none (.t 66)) <|
              .one none (.bi 68 .add (.t 67) (.c (.int .i64 1))) <|
              .one none (.bs 61 48 3 [(.t 60)]) <|
              .one none (.bs 64 33 1 [(.t 61), (.t 63)]) <|
              .one none (.ca (some 65) (.c (.clo 126 [] [])) [(false, (.t 64))]) <|
              .one none (.ca (some 69) (.c (.clo 43 [] [])) [(false, (.t 59)), (false, (.t 65)), (false, (.t 68))]) <|
              .one none (.bs 70 30 4 [(.t 69)]) <|
              .one none (.tk 4 (.t 70)) <|
              .nil],
          .one none (.ld 67 none (.t 66)) <|
           .one none (.bi 68 .add (.t 67) (.c (.int .i64 1))) <|
           .any [
             .one none (.bs 61 48 3 [(.t 60)]) <|
              .one none (.ld 63 none (.t 62)) <|
              .one none (.bs 64 33 1 [(.t 61), (.t 63)]) <|
              .one none (.ca (some 65) (.c (.clo 126 [] [])) [(false, (.t 64))]) <|
              .one none (.ca (some 69) (.c (.clo 43 [] [])) [(false, (.t 59)), (false, (.t 65)), (false, (.t 68))]) <|
              .one none (.bs 70 30 4 [(.t 69)]) <|
              .one none (.tk 4 (.t 70)) <|
              .nil,
             .one none (.ld 63 none (.t 62)) <|
              .one none (.bs 61 48 3 [(.t 60)]) <|
              .one none (.bs 64 33 1 [(.t 61), (.t 63)]) <|
              .one none (.ca (some 65) (.c (.clo 126 [] [])) [(false, (.t 64))]) <|
              .one none (.ca (some 69) (.c (.clo 43 [] [])) [(false, (.t 59)), (false, (.t 65)), (false, (.t 68))]) <|
              .one none (.bs 70 30 4 [(.t 69)]) <|
              .one none (.tk 4 (.t 70)) <|
              .nil]],
       .one none (.ld 63 none (.t 62)) <|
        .any [
          .one none (.ld 60 (some 3) (.t 15)) <|
           .any [
             .one none (.bs 61 48 3 [(.t 60)]) <|
              .any [
                .one none (.bs 64 33 1 [(.t 61), (.t 63)]) <|
                 .any [
                   .one none (.ca (some 65) (.c (.clo 126 [] [])) [(false, (.t 64))]) <|
                    .one none (.ld 67 none (.t 66)) <|
                    .one none (.bi 68 .add (.t 67) (.c (.int .i64 1))) <|
                    .one none (.ca (some 69) (.c (.clo 43 [] [])) [(false, (.t 59)), (false, (.t 65)), (false, (.t 68))]) <|
                    .one none (.bs 70 30 4 [(.t 69)]) <|
                    .one none (.tk 4 (.t 70)) <|
                    .nil,
                   .one none (.ld 67 none (.t 66)) <|
                    .one none (.bi 68 .add (.t 67) (.c (.int .i64 1))) <|
                    .one none (.ca (some 65) (.c (.clo 126 [] [])) [(false, (.t 64))]) <|
                    .one none (.ca (some 69) (.c (.clo 43 [] [])) [(false, (.t 59)), (false, (.t 65)), (false, (.t 68))]) <|
                    .one none (.bs 70 30 4 [(.t 69)]) <|
                    .one none (.tk 4 (.t 70)) <|
                    .nil],
                .one none (.ld 67 none (.t 66)) <|
                 .one none (.bi 68 .add (.t 67) (.c (.int .i64 1))) <|
                 .one none (.bs 64 33 1 [(.t 61), (.t 63)]) <|
                 .one none (.ca (some 65) (.c (.clo 126 [] [])) [(false, (.t 64))]) <|
                 .one none (.ca (some 69) (.c (.clo 43 [] [])) [(false, (.t 59)), (false, (.t 65)), (false, (.t 68))]) <|
                 .one none (.bs 70 30 4 [(.t 69)]) <|
                 .one none (.tk 4 (.t 70)) <|
                 .nil],
             .one none (.ld 67 none (.t 66)) <|
              .one none (.bi 68 .add (.t 67) (.c (.int .i64 1))) <|
              .one none (.bs 61 48 3 [(.t 60)]) <|
              .one none (.bs 64 33 1 [(.t 61), (.t 63)]) <|
              .one none (.ca (some 65) (.c (.clo 126 [] [])) [(false, (.t 64))]) <|
              .one none (.ca (some 69) (.c (.clo 43 [] [])) [(false, (.t 59)), (false, (.t 65)), (false, (.t 68))]) <|
              .one none (.bs 70 30 4 [(.t 69)]) <|
              .one none (.tk 4 (.t 70)) <|
              .nil],
          .one none (.ld 67 none (.t 66)) <|
           .one none (.bi 68 .add (.t 67) (.c (.int .i64 1))) <|
           .one none (.ld 60 (some 3) (.t 15)) <|
           .one none (.bs 61 48 3 [(.t 60)]) <|
           .one none (.bs 64 33 1 [(.t 61), (.t 63)]) <|
           .one none (.ca (some 65) (.c (.clo 126 [] [])) [(false, (.t 64))]) <|
           .one none (.ca (some 69) (.c (.clo 43 [] [])) [(false, (.t 59)), (false, (.t 65)), (false, (.t 68))]) <|
           .one none (.bs 70 30 4 [(.t 69)]) <|
           .one none (.tk 4 (.t 70)) <|
           .nil],
       .one none (.ld 67 none (.t 66)) <|
        .one none (.bi 68 .add (.t 67) (.c (.int .i64 1))) <|
        .any [
          .one none (.ld 60 (some 3) (.t 15)) <|
           .any [
             .one none (.bs 61 48 3 [(.t 60)]) <|
              .one none (.ld 63 none (.t 62)) <|
              .one none (.bs 64 33 1 [(.t 61), (.t 63)]) <|
              .one none (.ca (some 65) (.c (.clo 126 [] [])) [(false, (.t 64))]) <|
              .one none (.ca (some 69) (.c (.clo 43 [] [])) [(false, (.t 59)), (false, (.t 65)), (false, (.t 68))]) <|
              .one none (.bs 70 30 4 [(.t 69)]) <|
              .one none (.tk 4 (.t 70)) <|
              .nil,
             .one none (.ld 63 none (.t 62)) <|
              .one none (.bs 61 48 3 [(.t 60)]) <|
              .one none (.bs 64 33 1 [(.t 61), (.t 63)]) <|
              .one none (.ca (some 65) (.c (.clo 126 [] [])) [(false, (.t 64))]) <|
              .one none (.ca (some 69) (.c (.clo 43 [] [])) [(false, (.t 59)), (false, (.t 65)), (false, (.t 68))]) <|
              .one none (.bs 70 30 4 [(.t 69)]) <|
              .one none (.tk 4 (.t 70)) <|
              .nil],
          .one none (.ld 63 none (.t 62)) <|
           .one none (.ld 60 (some 3) (.t 15)) <|
           .one none (.bs 61 48 3 [(.t 60)]) <|
           .one none (.bs 64 33 1 [(.t 61), (.t 63)]) <|
           .one none (.ca (some 65) (.c (.clo 126 [] [])) [(false, (.t 64))]) <|
           .one none (.ca (some 69) (.c (.clo 43 [] [])) [(false, (.t 59)), (false, (.t 65)), (false, (.t 68))]) <|
           .one none (.bs 70 30 4 [(.t 69)]) <|
           .one none (.tk 4 (.t 70)) <|
           .nil]]) <|
   .ret) <|
  .skip) <|
 .seq (.reg <|
   .one none (.mv 71 (.t 0)) <|
   .one none (.ld 72 (some 6) (.t 3)) <|
   .one none (.ca (some 73) (.c (.clo 78 [] [])) [(false, (.t 71)), (false, (.t 72))]) <|
   .one none (.bs 74 30 4 [(.t 73)]) <|
   .one none (.tk 4 (.t 74)) <|
   .nil) <|
 .ret⟩
theorem has77 : Has Tryz.prog [] 77 ir77 := has_of Tryz.func77 (by kernel_rfl)
def ir78 : If := ⟨80, [.cell 4 (some 4)],
 .seq (.reg <|
   .one none (.bx 3 110 6 (.t 1)) <|
   .one none (.al 4 30 [(.int .i64 0), (.str []), (.str []), (.sl true [])]) <|
   .nil) <|
 .seq (.reg <|
   .one none (.fa 14 0 (.t 3)) <|
   .one none (.ld 15 none (.t 14)) <|
   .one none (.ca (some 16) (.c (.clo 127 [] [])) [(false, (.t 15))]) <|
   .one none (.mv 13 (.t 16)) <|
   .one none (.ex 17 (.t 13) 0) <|
   .one none (.ex 18 (.t 13) 1) <|
   .one none (.al 5 153 [(.str []), (.int .i64 0)]) <|
   .one none (.st 2 (.t 5) (.t 17)) <|
   .one none (.tk 6 (.t 18)) <|
   .nil) <|
 .seq (.seq (.reg <|
    .one none (.mv 19 (.t 6)) <|
    .one none (.bi 20 .eql (.t 19) (.c (.str []))) <|
    .one none (.mv 21 (.t 20)) <|
    .one (some (21, false)) (.mv 22 (.t 6)) <|
    .one (some (21, false)) (.ix 23 (.t 22) (.c (.int .i64 0))) <|
    .one (some (21, false)) (.bi 24 .eql (.t 23) (.c (.int .u8 35))) <|
    .one none (.pk 25 (.t 21) (.c (.bool true)) (.t 24)) <|
    .nil) <|
  .cond (.t 25) (.seq (.reg <|
     .one none (.mv 26 (.t 0)) <|
     .one none (.ld 27 (some 6) (.t 3)) <|
     .one none (.ld 28 (some 2) (.t 5)) <|
     .one none (.ca (some 29) (.c (.clo 128 [] [])) [(false, (.t 26)), (false, (.t 27)), (false, (.t 28))]) <|
     .one none (.st 4 (.t 4) (.t 29)) <|
     .nil) <|
   .ret) <|
  .skip) <|
 .seq (.seq (.reg <|
    .one none (.mv 31 (.t 6)) <|
    .one none (.ca (some 32) (.c (.clo 130 [] [])) [(false, (.t 31))]) <|
    .one none (.ca (some 33) (.c (.clo 129 [] [])) [(false, (.t 32))]) <|
    .one none (.mv 30 (.t 33)) <|
    .one none (.ex 34 (.t 30) 0) <|
    .one none (.ex 35 (.t 30) 1) <|
    .one none (.al 7 158 [(.bool false), (.int .i64 0)]) <|
    .one none (.st 2 (.t 7) (.t 34)) <|
    .one none (.tk 8 (.t 35)) <|
    .nil) <|
  .seq (.reg <|
    .one none (.mv 36 (.t 8)) <|
    .nil) <|
  .cond (.t 36) (.seq (.reg <|
     .one none (.fa 38 4 (.t 3)) <|
     .one none (.ld 39 none (.t 38)) <|
     .one none (.fa 40 1 (.t 3)) <|
     .one none (.fa 41 0 (.t 40)) <|
     .one none (.ld 42 none (.t 41)) <|
     .one none (.ld 43 (some 2) (.t 7)) <|
     .one none (.ca (some 44) (.c (.clo 131 [] [])) [(false, (.t 39)), (false, (.t 42)), (false, (.t 43))]) <|
     .one none (.mv 37 (.t 44)) <|
     .one none (.ex 45 (.t 37) 0) <|
     .one none (.ex 46 (.t 37) 1) <|
     .one none (.ex 47 (.t 37) 2) <|
     .one none (.al 11 25 [(.int .i64 0), (.int .i64 0)]) <|
     .one none (.tk 9 (.t 45)) <|
     .one none (.tk 10 (.t 46)) <|
     .one none (.st 2 (.t 11) (.t 47)) <|
     .nil) <|
   .seq (.seq (.reg <|
      .one none (.ld 48 (some 2) (.t 11)) <|
      .one none (.bd 49 [(.int .i64 0), (.int .i64 0)] []) <|
      .one none (.eq 50 true [1, 1] (.t 48) (.t 49)) <|
      .nil) <|
    .cond (.t 50) (.seq (.reg <|
       .one none (.mv 51 (.t 0)) <|
       .one none (.ld 52 (some 2) (.t 11)) <|
       .one none (.nc 53 (.t 51)) <|
       .one none (.fa 54 0 (.t 53)) <|
       .one none (.st 2 (.t 54) (.t 52)) <|
       .nil) <|
     .seq (.reg <|
       .one none (.bd 55 [(.int .i64 0), (.str []), (.str []), (.sl true [])] []) <|
       .one none (.st 4 (.t 4) (.t 55)) <|
       .nil) <|
     .ret) <|
    .skip) <|
   .seq (.reg <|
     .one none (.mv 56 (.t 0)) <|
     .one none (.fa 57 4 (.t 3)) <|
     .one none (.ld 58 none (.t 57)) <|
     .one none (.mv 59 (.t 10)) <|
     .one none (.sc 60 3 (.t 58) (some (.t 59)) none none) <|
     .one none (.ca (some 61) (.c (.clo 132 [] [])) [(false, (.t 56)), (false, (.t 60))]) <|
     .nil) <|
   .seq (.reg <|
     .one none (.mv 62 (.t 0)) <|
     .one none (.mv 63 (.t 9)) <|
     .one none (.bd 64 [(.int .i64 0), (.str []), (.str []), (.sl true [])] [(0, 1, (.c (.int .i64 4))), (1, 1, (.t 63))]) <|
     .one none (.ld 65 (some 2) (.t 5)) <|
     .one none (.fa 66 1 (.t 3)) <|
     .one none (.ld 67 (some 3) (.t 66)) <|
     .one none (.ca (some 68) (.c (.clo 133 [] [])) [(false, (.t 62)), (false, (.t 64)), (false, (.t 65)), (false, (.t 67))]) <|
     .one none (.st 4 (.t 4) (.t 68)) <|
     .nil) <|
   .ret) <|
  .skip) <|
 .seq (.reg <|
   .one none (.mv 69 (.t 0)) <|
   .one none (.fa 70 0 (.t 3)) <|
   .one none (.ld 71 none (.t 70)) <|
   .one none (.fa 72 1 (.t 3)) <|
   .one none (.ld 73 (some 3) (.t 72)) <|
   .one none (.ca (some 74) (.c (.clo 134 [] [])) [(false, (.t 69)), (false, (.t 71)), (false, (.t 73))]) <|
   .one none (.al 12 30 [(.int .i64 0), (.str []), (.str []), (.sl true [])]) <|
   .one none (.st 4 (.t 12) (.t 74)) <|
   .nil) <|
 .seq (.reg <|
   .one none (.mv 75 (.t 0)) <|
   .one none (.fa 76 4 (.t 3)) <|
   .one none (.ld 77 none (.t 76)) <|
   .one none (.ca (some 78) (.c (.clo 132 [] [])) [(false, (.t 75)), (false, (.t 77))]) <|
   .nil) <|
 .seq (.reg <|
   .one none (.ld 79 (some 4) (.t 12)) <|
   .one none (.st 4 (.t 4) (.t 79)) <|
   .nil) <|
 .ret⟩
theorem has78 : Has Tryz.prog [] 78 ir78 := has_of Tryz.func78 (by kernel_rfl)
def ir79 : If := ⟨41, [.t 4],
 .seq (.reg <|
   .one none (.bx 3 110 6 (.t 1)) <|
   .one none (.tk 4 (.c (.sl true []))) <|
   .nil) <|
 .seq (.reg <|
   .one none (.fa 10 1 (.t 3)) <|
   .one none (.fa 11 1 (.t 10)) <|
   .one none (.ld 12 none (.t 11)) <|
   .one none (.ca (some 13) (.c (.clo 24 [] [])) [(false, (.t 12))]) <|
   .one none (.mv 9 (.t 13)) <|
   .one none (.ex 14 (.t 9) 0) <|
   .one none (.ex 15 (.t 9) 1) <|
   .one none (.ex 16 (.t 9) 2) <|
   .one none (.ex 17 (.t 9) 3) <|
   .one none (.al 5 30 [(.int .i64 0), (.str []), (.str []), (.sl true [])]) <|
   .one none (.st 4 (.t 5) (.t 14)) <|
   .one none (.tk 6 (.t 15)) <|
   .one none (.tk 7 (.t 16)) <|
   .one none (.tk 8 (.t 17)) <|
   .nil) <|
 .seq (.block 0 <|
  .seq (.reg <|
    .one none (.mv 19 (.t 8)) <|
    .one none (.no 20 .not (.t 19)) <|
    .one none (.tk 18 (.t 20)) <|
    .nil) <|
  .cond (.t 18) (.seq (.reg <|
     .one none (.mv 21 (.t 0)) <|
     .one none (.fa 22 1 (.t 3)) <|
     .one none (.ld 23 (some 3) (.t 22)) <|
     .one none (.ca (some 24) (.c (.clo 76 [] [])) [(false, (.t 21)), (false, (.c (.int .i64 3))), (false, (.t 23))]) <|
     .nil) <|
   .seq (.reg <|
     .one none (.tk 4 (.c (.sl true []))) <|
     .nil) <|
   .ret) <|
  .seq (.reg <|
    .one none (.fa 26 1 (.t 5)) <|
    .one none (.ld 27 none (.t 26)) <|
    .one none (.ln 28 true (.t 27)) <|
    .one none (.bi 29 .gtr (.t 28) (.c (.int .i64 256))) <|
    .one none (.tk 25 (.t 29)) <|
    .nil) <|
  .cond (.t 25) (.seq (.reg <|
     .one none (.mv 30 (.t 0)) <|
     .one none (.fa 31 1 (.t 3)) <|
     .one none (.ld 32 (some 3) (.t 31)) <|
     .one none (.ca (some 33) (.c (.clo 76 [] [])) [(false, (.t 30)), (false, (.c (.int .i64 5))), (false, (.t 32))]) <|
     .nil) <|
   .seq (.reg <|
     .one none (.tk 4 (.c (.sl true []))) <|
     .nil) <|
   .ret) <|
  .skip) <|
 .seq (.reg <|
   .one none (.mv 34 (.t 6)) <|
   .one none (.fa 35 0 (.t 3)) <|
   .one none (.st 1 (.t 35) (.t 34)) <|
   .nil) <|
 .seq (.reg <|
   .one none (.mv 37 (.t 0)) <|
   .any [
     .one none (.ld 36 (some 4) (.t 5)) <|
      .one none (.ld 38 (some 6) (.t 3)) <|
      .one none (.ca (some 39) (.c (.clo 78 [] [])) [(false, (.t 37)), (false, (.t 38))]) <|
      .one none (.bs 40 30 4 [(.t 36), (.t 39)]) <|
      .one none (.tk 4 (.t 40)) <|
      .nil,
     .one none (.ld 38 (some 6) (.t 3)) <|
      .any [
        .one none (.ld 36 (some 4) (.t 5)) <|
         .one none (.ca (some 39) (.c (.clo 78 [] [])) [(false, (.t 37)), (false, (.t 38))]) <|
         .one none (.bs 40 30 4 [(.t 36), (.t 39)]) <|
         .one none (.tk 4 (.t 40)) <|
         .nil,
        .one none (.ca (some 39) (.c (.clo 78 [] [])) [(false, (.t 37)), (false, (.t 38))]) <|
         .one none (.ld 36 (some 4) (.t 5)) <|
         .one none (.bs 40 30 4 [(.t 36), (.t 39)]) <|
         .one none (.tk 4 (.t 40)) <|
         .nil]]) <|
 .ret⟩
theorem has79 : Has Tryz.prog [] 79 ir79 := has_of Tryz.func79 (by kernel_rfl)
def ir80 : If := ⟨12, [.t 2],
 .seq (.reg <|
   .one none (.bx 1 48 3 (.t 0)) <|
   .one none (.tk 2 (.c (.bool false))) <|
   .nil) <|
 .seq (.reg <|
   .one none (.fa 3 1 (.t 1)) <|
   .one none (.ld 4 none (.t 3)) <|
   .one none (.bi 5 .eql (.t 4) (.c (.str []))) <|
   .one none (.mv 6 (.t 5)) <|
   .one (some (6, false)) (.fa 7 1 (.t 1)) <|
   .one (some (6, false)) (.ld 8 none (.t 7)) <|
   .one (some (6, false)) (.ix 9 (.t 8) (.c (.int .i64 0))) <|
   .one (some (6, false)) (.bi 10 .eql (.t 9) (.c (.int .u8 35))) <|
   .one none (.pk 11 (.t 6) (.c (.bool true)) (.t 10)) <|
   .one none (.tk 2 (.t 11)) <|
   .nil) <|
 .ret⟩
theorem has80 : Has Tryz.prog [] 80 ir80 := has_of Tryz.func80 (by kernel_rfl)
def ir86 : If := ⟨15, [.t 4, .t 5],
 .seq (.reg <|
   .one none (.tk 4 (.c (.str []))) <|
   .one none (.tk 5 (.c (.bool false))) <|
   .nil) <|
 .seq (.seq (.reg <|
    .one none (.mv 6 (.t 0)) <|
    .one none (.mv 7 (.t 1)) <|
    .one none (.ca (some 8) (.c (.clo 118 [] [])) [(false, (.t 6)), (false, (.t 7))]) <|
    .one none (.no 9 .not (.t 8)) <|
    .nil) <|
  .cond (.t 9) (.seq (.reg <|
     .one none (.mv 10 (.t 0)) <|
     .one none (.tk 4 (.t 10)) <|
     .one none (.tk 5 (.c (.bool false))) <|
     .nil) <|
   .ret) <|
  .skip) <|
 .seq (.reg <|
   .one none (.mv 11 (.t 0)) <|
   .one none (.mv 12 (.t 1)) <|
   .one none (.ln 13 true (.t 12)) <|
   .one none (.sc 14 0 (.t 11) (some (.t 13)) none none) <|
   .one none (.tk 4 (.t 14)) <|
   .one none (.tk 5 (.c (.bool true))) <|
   .nil) <|
 .ret⟩
theorem has86 : Has Tryz.prog [] 86 ir86 := has_of Tryz.func86 (by kernel_rfl)
def ir87 : If := ⟨17, [.t 4],
 .seq (.reg <|
   .one none (.tk 4 (.c (.str []))) <|
   .nil) <|
 .seq (.block 0 <|
  .loop <|
  .seq (.seq (.reg <|
     .one none (.mv 5 (.t 0)) <|
     .one none (.ln 6 true (.t 5)) <|
     .one none (.bi 7 .gtr (.t 6) (.c (.int .i64 0))) <|
     .one none (.mv 8 (.t 7)) <|
     .one (some (8, true)) (.mv 9 (.t 0)) <|
     .one (some (8, true)) (.ix 10 (.t 9) (.c (.int .i64 0))) <|
     .one (some (8, true)) (.mv 11 (.t 1)) <|
     .one (some (8, true)) (.bi 12 .eql (.t 10) (.t 11)) <|
     .one none (.pk 13 (.t 8) (.t 12) (.c (.bool false))) <|
     .nil) <|
   .cond (.t 13) (.skip) <|
   .exit 0) <|
  .block 1 <|
  .reg <|
   .one none (.mv 14 (.t 0)) <|
   .one none (.sc 15 0 (.t 14) (some (.c (.int .i64 1))) none none) <|
   .one none (.tk 0 (.t 15)) <|
   .nil) <|
 .seq (.reg <|
   .one none (.mv 16 (.t 0)) <|
   .one none (.tk 4 (.t 16)) <|
   .nil) <|
 .ret⟩
theorem has87 : Has Tryz.prog [] 87 ir87 := has_of Tryz.func87 (by kernel_rfl)
def ir89 : If := ⟨16, [.t 4],
 .seq (.reg <|
   .one none (.tk 4 (.c (.str []))) <|
   .nil) <|
 .seq (.block 0 <|
  .loop <|
  .seq (.seq (.reg <|
     .one none (.mv 5 (.t 0)) <|
     .one none (.ln 6 true (.t 5)) <|
     .one none (.bi 7 .gtr (.t 6) (.c (.int .i64 0))) <|
     .nil) <|
   .cond (.t 7) (.skip) <|
   .exit 0) <|
  .block 1 <|
  .seq (.seq (.reg <|
     .one none (.mv 8 (.t 1)) <|
     .one none (.mv 9 (.t 0)) <|
     .one none (.ix 10 (.t 9) (.c (.int .i64 0))) <|
     .one none (.ca (some 11) (.c (.clo 144 [] [])) [(false, (.t 8)), (false, (.t 10))]) <|
     .one none (.no 12 .not (.t 11)) <|
     .nil) <|
   .cond (.t 12) (.exit 0) <|
   .skip) <|
  .reg <|
   .one none (.mv 13 (.t 0)) <|
   .one none (.sc 14 0 (.t 13) (some (.c (.int .i64 1))) none none) <|
   .one none (.tk 0 (.t 14)) <|
   .nil) <|
 .seq (.reg <|
   .one none (.mv 15 (.t 0)) <|
   .one none (.tk 4 (.t 15)) <|
   .nil) <|
 .ret⟩
theorem has89 : Has Tryz.prog [] 89 ir89 := has_of Tryz.func89 (by kernel_rfl)
def ir90 : If := ⟨23, [.t 4],
 .seq (.reg <|
   .one none (.tk 4 (.c (.str []))) <|
   .nil) <|
 .seq (.block 0 <|
  .loop <|
  .seq (.seq (.reg <|
     .one none (.mv 7 (.t 0)) <|
     .one none (.ln 8 true (.t 7)) <|
     .one none (.bi 9 .gtr (.t 8) (.c (.int .i64 0))) <|
     .nil) <|
   .cond (.t 9) (.skip) <|
   .exit 0) <|
  .block 1 <|
  .seq (.reg <|
    .one none (.mv 11 (.t 0)) <|
    .one none (.ca (some 12) (.c (.clo 145 [] [])) [(false, (.t 11))]) <|
    .one none (.mv 10 (.t 12)) <|
    .one none (.ex 13 (.t 10) 0) <|
    .one none (.ex 14 (.t 10) 1) <|
    .one none (.tk 5 (.t 13)) <|
    .one none (.tk 6 (.t 14)) <|
    .nil) <|
  .seq (.seq (.reg <|
     .one none (.mv 15 (.t 1)) <|
     .one none (.mv 16 (.t 5)) <|
     .one none (.ca (some 17) (.c (.clo 146 [] [])) [(false, (.t 15)), (false, (.t 16))]) <|
     .one none (.no 18 .not (.t 17)) <|
     .nil) <|
   .cond (.t 18) (.exit 0) <|
   .skip) <|
  .reg <|
   .one none (.mv 19 (.t 0)) <|
   .one none (.mv 20 (.t 6)) <|
   .one none (.sc 21 0 (.t 19) (some (.t 20)) none none) <|
   .one none (.tk 0 (.t 21)) <|
   .nil) <|
 .seq (.reg <|
   .one none (.mv 22 (.t 0)) <|
   .one none (.tk 4 (.t 22)) <|
   .nil) <|
 .ret⟩
theorem has90 : Has Tryz.prog [] 90 ir90 := has_of Tryz.func90 (by kernel_rfl)
def ir91 : If := ⟨65, [.t 2, .t 3, .cell 4 (some 2)],
 .seq (.reg <|
   .one none (.tk 2 (.c (.str []))) <|
   .one none (.tk 3 (.c (.int .i64 0))) <|
   .one none (.al 4 25 [(.int .i64 0), (.int .i64 0)]) <|
   .nil) <|
 .seq (.seq (.reg <|
    .one none (.mv 10 (.t 0)) <|
    .one none (.bi 11 .eql (.t 10) (.c (.str []))) <|
    .one none (.mv 12 (.t 11)) <|
    .one (some (12, false)) (.mv 13 (.t 0)) <|
    .one (some (12, false)) (.ix 14 (.t 13) (.c (.int .i64 0))) <|
    .one (some (12, false)) (.bi 15 .neq (.t 14) (.c (.int .u8 39))) <|
    .one (some (12, false)) (.mv 16 (.t 15)) <|
    .one (some (16, true)) (.mv 17 (.t 0)) <|
    .one (some (16, true)) (.ix 18 (.t 17) (.c (.int .i64 0))) <|
    .one (some (16, true)) (.bi 19 .neq (.t 18) (.c (.int .u8 34))) <|
    .one (some (12, false)) (.pk 20 (.t 16) (.t 19) (.c (.bool false))) <|
    .one none (.pk 21 (.t 12) (.c (.bool true)) (.t 20)) <|
    .nil) <|
  .cond (.t 21) (.seq (.reg <|
     .one none (.bd 22 [(.int .i64 0), (.int .i64 0)] [(0, 1, (.c (.int .i64 3)))]) <|
     .one none (.tk 2 (.c (.str []))) <|
     .one none (.tk 3 (.c (.int .i64 0))) <|
     .one none (.st 2 (.t 4) (.t 22)) <|
     .nil) <|
   .ret) <|
  .skip) <|
 .seq (.reg <|
   .one none (.al 5 102 [.nilp, (.sl true [])]) <|
   .nil) <|
 .seq (.seq (.reg <|
    .one none (.tk 6 (.c (.int .i64 1))) <|
    .nil) <|
  .block 0 <|
  .loop <|
  .seq (.seq (.reg <|
     .one none (.mv 23 (.t 6)) <|
     .one none (.mv 24 (.t 0)) <|
     .one none (.ln 25 true (.t 24)) <|
     .one none (.bi 26 .lss (.t 23) (.t 25)) <|
     .nil) <|
   .cond (.t 26) (.skip) <|
   .exit 0) <|
  .block 1 <|
  .seq (.reg <|
    .one none (.mv 28 (.t 0)) <|
    .one none (.mv 29 (.t 6)) <|
    .one none (.sc 30 0 (.t 28) (some (.t 29)) none none) <|
    .one none (.mv 31 (.t 0)) <|
    .one none (.ix 32 (.t 31) (.c (.int .i64 0))) <|
    .one none (.ca (some 33) (.c (.clo 147 [] [])) [(false, (.t 30)), (false, (.t 32))]) <|
    .one none (.mv 27 (.t 33)) <|
    .one none (.ex 34 (.t 27) 0) <|
    .one none (.ex 35 (.t 27) 1) <|
    .one none (.ex 36 (.t 27) 2) <|
    .one none (.tk 7 (.t 34)) <|
    .one none (.tk 8 (.t 35)) <|
    .one none (.tk 9 (.t 36)) <|
    .nil) <|
  .seq (.block 2 <|
   .seq (.reg <|
     .one none (.mv 38 (.t 9)) <|
     .one none (.bi 39 .eql (.t 38) (.c (.int .i64 4))) <|
     .one none (.tk 37 (.t 39)) <|
     .nil) <|
   .cond (.t 37) (.seq (.reg <|
      .one none (.mv 40 (.t 9)) <|
      .one none (.mv 41 (.t 0)) <|
      .one none (.ln 42 true (.t 41)) <|
      .one none (.bd 43 [(.int .i64 0), (.int .i64 0)] [(0, 1, (.t 40)), (1, 1, (.t 42))]) <|
      .one none (.tk 2 (.c (.str []))) <|
      .one none (.tk 3 (.c (.int .i64 0))) <|
      .one none (.st 2 (.t 4) (.t 43)) <|
      .nil) <|
    .ret) <|
   .seq (.reg <|
     .one none (.mv 45 (.t 9)) <|
     .one none (.bi 46 .neq (.t 45) (.c (.int .i64 0))) <|
     .one none (.tk 44 (.t 46)) <|
     .nil) <|
   .cond (.t 44) (.seq (.reg <|
      .one none (.mv 47 (.t 9)) <|
      .one none (.mv 48 (.t 6)) <|
      .one none (.bd 49 [(.int .i64 0), (.int .i64 0)] [(0, 1, (.t 47)), (1, 1, (.t 48))]) <|
      .one none (.tk 2 (.c (.str []))) <|
      .one none (.tk 3 (.c (.int .i64 0))) <|
      .one none (.st 2 (.t 4) (.t 49)) <|
      .nil) <|
    .ret) <|
   .seq (.reg <|
     .one none (.mv 51 (.t 8)) <|
     .one none (.bi 52 .eql (.t 51) (.c (.int .i64 0))) <|
     .one none (.tk 50 (.t 52)) <|
     .nil) <|
   .cond (.t 50) (.seq (.reg <|
      .one none (.ca (some 53) (.c (.clo 74 [] [])) [(false, (.t 5))]) <|
      .one none (.mv 54 (.t 6)) <|
      .one none (.bi 55 .add (.t 54) (.c (.int .i64 1))) <|
      .one none (.bd 56 [(.int .i64 0), (.int .i64 0)] []) <|
      .one none (.tk 2 (.t 53)) <|
      .one none (.tk 3 (.t 55)) <|
      .one none (.st 2 (.t 4) (.t 56)) <|
      .nil) <|
    .ret) <|
   .skip) <|
  .seq (.reg <|
    .one none (.mv 57 (.t 7)) <|
    .one none (.ca (some 58) (.c (.clo 122 [] [])) [(false, (.t 5)), (false, (.t 57))]) <|
    .nil) <|
  .reg <|
   .one none (.mv 59 (.t 6)) <|
   .one none (.mv 60 (.t 8)) <|
   .one none (.bi 61 .add (.t 59) (.t 60)) <|
   .one none (.tk 6 (.t 61)) <|
   .nil) <|
 .seq (.reg <|
   .one none (.mv 62 (.t 0)) <|
   .one none (.ln 63 true (.t 62)) <|
   .one none (.bd 64 [(.int .i64 0), (.int .i64 0)] [(0, 1, (.c (.int .i64 4))), (1, 1, (.t 63))]) <|
   .one none (.tk 2 (.c (.str []))) <|
   .one none (.tk 3 (.c (.int .i64 0))) <|
   .one none (.st 2 (.t 4) (.t 64)) <|
   .nil) <|
 .ret⟩
theorem has91 : Has Tryz.prog [] 91 ir91 := has_of Tryz.func91 (by kernel_rfl)
def ir92 : If := ⟨15, [.t 4, .t 5],
 .seq (.reg <|
   .one none (.tk 4 (.c (.str []))) <|
   .one none (.tk 5 (.c (.int .i64 0))) <|
   .nil) <|
 .seq (.reg <|
   .one none (.mv 7 (.t 0)) <|
   .one none (.mv 8 (.t 1)) <|
   .one none (.ca (some 9) (.c (.clo 148 [] [])) [(false, (.t 7)), (false, (.t 8))]) <|
   .one none (.tk 6 (.t 9)) <|
   .nil) <|
 .seq (.reg <|
   .one none (.mv 10 (.t 0)) <|
   .one none (.mv 11 (.t 6)) <|
   .one none (.sc 12 0 (.t 10) none (some (.t 11)) none) <|
   .one none (.ca (some 13) (.c (.clo 65 [] [])) [(false, (.t 12)), (false, (.c (.str [32])))]) <|
   .one none (.mv 14 (.t 6)) <|
   .one none (.tk 4 (.t 13)) <|
   .one none (.tk 5 (.t 14)) <|
   .nil) <|
 .ret⟩
theorem has92 : Has Tryz.prog [] 92 ir92 := has_of Tryz.func92 (by kernel_rfl)
def ir93 : If := ⟨19, [.t 2],
 .seq (.reg <|
   .one none (.tk 2 (.c (.int .i64 0))) <|
   .nil) <|
 .seq (.seq (.reg <|
    .one none (.mv 5 (.t 0)) <|
    .nil) <|
  .block 0 <|
  .seq (.seq (.reg <|
     .one none (.bi 7 .eql (.t 5) (.c (.str []))) <|
     .one none (.tk 6 (.t 7)) <|
     .nil) <|
   .cond (.t 6) (.skip) <|
   .seq (.reg <|
     .one none (.bi 8 .eql (.t 5) (.c (.str [126]))) <|
     .one none (.tk 6 (.t 8)) <|
     .nil) <|
   .cond (.t 6) (.skip) <|
   .reg <|
    .one none (.bi 9 .eql (.t 5) (.c (.str [110, 117, 108, 108]))) <|
    .one none (.tk 6 (.t 9)) <|
    .nil) <|
  .cond (.t 6) (.seq (.reg <|
     .one none (.tk 2 (.c (.int .i64 1))) <|
     .nil) <|
   .ret) <|
  .seq (.seq (.reg <|
     .one none (.bi 11 .eql (.t 5) (.c (.str [116, 114, 117, 101]))) <|
     .one none (.tk 10 (.t 11)) <|
     .nil) <|
   .cond (.t 10) (.skip) <|
   .reg <|
    .one none (.bi 12 .eql (.t 5) (.c (.str [102, 97, 108, 115, 101]))) <|
    .one none (.tk 10 (.t 12)) <|
    .nil) <|
  .cond (.t 10) (.seq (.reg <|
     .one none (.tk 2 (.c (.int .i64 2))) <|
     .nil) <|
   .ret) <|
  .skip) <|
 .seq (.seq (.reg <|
    .one none (.mv 14 (.t 0)) <|
    .one none (.ca (some 15) (.c (.clo 149 [] [])) [(false, (.t 14))]) <|
    .one none (.mv 13 (.t 15)) <|
    .one none (.ex 16 (.t 13) 0) <|
    .one none (.ex 17 (.t 13) 1) <|
    .one none (.tk 3 (.t 16)) <|
    .one none (.tk 4 (.t 17)) <|
    .nil) <|
  .seq (.reg <|
    .one none (.mv 18 (.t 4)) <|
    .nil) <|
  .cond (.t 18) (.seq (.reg <|
     .one none (.tk 2 (.c (.int .i64 3))) <|
     .nil) <|
   .ret) <|
  .skip) <|
 .seq (.reg <|
   .one none (.tk 2 (.c (.int .i64 4))) <|
   .nil) <|
 .ret⟩
theorem has93 : Has Tryz.prog [] 93 ir93 := has_of Tryz.func93 (by kernel_rfl)
def ir94 : If := ⟨64, [.t 4],
 .seq (.reg <|
   .one none (.tk 4 (.c (.bool false))) <|
   .nil) <|
 .seq (.block 0 <|
  .seq (.reg <|
    .one none (.mv 6 (.t 0)) <|
    .one none (.bi 7 .eql (.t 6) (.c (.str []))) <|
    .one none (.mv 8 (.t 7)) <|
    .one (some (8, false)) (.mv 9 (.t 0)) <|
    .one (some (8, false)) (.bi 10 .eql (.t 9) (.c (.str [45, 45, 45]))) <|
    .one none (.pk 11 (.t 8) (.c (.bool true)) (.t 10)) <|
    .one none (.mv 12 (.t 11)) <|
    .one (some (12, false)) (.mv 13 (.t 0)) <|
    .one (some (12, false)) (.ca (some 14) (.c (.clo 150 [] [])) [(false, (.t 13)), (false, (.c (.str [32])))]) <|
    .one (some (12, false)) (.mv 15 (.t 0)) <|
    .one (some (12, false)) (.bi 16 .neq (.t 14) (.t 15)) <|
    .one none (.pk 17 (.t 12) (.c (.bool true)) (.t 16)) <|
    .one none (.mv 18 (.t 17)) <|
    .one (some (18, false)) (.mv 19 (.t 0)) <|
    .one (some (18, false)) (.ca (some 20) (.c (.clo 63 [] [])) [(false, (.t 19))]) <|
    .one (some (18, false)) (.bd 21 [(.int .i64 0), (.int .i64 0)] []) <|
    .one (some (18, false)) (.eq 22 true [1, 1] (.t 20) (.t 21)) <|
    .one none (.pk 23 (.t 18) (.c (.bool true)) (.t 22)) <|
    .one none (.tk 5 (.t 23)) <|
    .nil) <|
  .cond (.t 5) (.seq (.reg <|
     .one none (.tk 4 (.c (.bool false))) <|
     .nil) <|
   .ret) <|
  .seq (.seq (.reg <|
     .one none (.mv 25 (.t 0)) <|
     .one none (.ix 26 (.t 25) (.c (.int .i64 0))) <|
     .one none (.ca (some 27) (.c (.clo 64 [] [])) [(false, (.c (.str [63, 58, 44, 91, 93, 123, 125, 35, 38, 42, 33, 124, 62, 39, 34, 37, 64, 96]))), (false, (.t 26))]) <|
     .one none (.bi 28 .geq (.t 27) (.c (.int .i64 0))) <|
     .one none (.tk 24 (.t 28)) <|
     .nil) <|
   .cond (.t 24) (.skip) <|
   .reg <|
    .one none (.mv 29 (.t 0)) <|
    .one none (.ix 30 (.t 29) (.c (.int .i64 0))) <|
    .one none (.bi 31 .eql (.t 30) (.c (.int .u8 45))) <|
    .one none (.mv 32 (.t 31)) <|
    .one (some (32, true)) (.mv 33 (.t 0)) <|
    .one (some (32, true)) (.sc 34 0 (.t 33) (some (.c (.int .i64 1))) none none) <|
    .one (some (32, true)) (.mv 35 (.t 1)) <|
    .one (some (32, true)) (.ca (some 36) (.c (.clo 151 [] [])) [(false, (.t 34)), (false, (.t 35))]) <|
    .one none (.pk 37 (.t 32) (.t 36) (.c (.bool false))) <|
    .one none (.tk 24 (.t 37)) <|
    .nil) <|
  .cond (.t 24) (.seq (.reg <|
     .one none (.tk 4 (.c (.bool false))) <|
     .nil) <|
   .ret) <|
  .seq (.reg <|
    .one none (.mv 39 (.t 0)) <|
    .one none (.ca (some 40) (.c (.clo 150 [] [])) [(false, (.t 39)), (false, (.c (.str [9, 10, 13])))]) <|
    .one none (.mv 41 (.t 0)) <|
    .one none (.bi 42 .neq (.t 40) (.t 41)) <|
    .one none (.mv 43 (.t 42)) <|
    .one (some (43, false)) (.mv 44 (.t 0)) <|
    .one (some (43, false)) (.ca (some 45) (.c (.clo 64 [] [])) [(false, (.t 44)), (false, (.c (.int .u8 9)))]) <|
    .one (some (43, false)) (.bi 46 .geq (.t 45) (.c (.int .i64 0))) <|
    .one none (.pk 47 (.t 43) (.c (.bool true)) (.t 46)) <|
    .one none (.mv 48 (.t 47)) <|
    .one (some (48, false)) (.mv 49 (.t 0)) <|
    .one (some (48, false)) (.ca (some 50) (.c (.clo 64 [] [])) [(false, (.t 49)), (false, (.c (.int .u8 10)))]) <|
    .one (some (48, false)) (.bi 51 .geq (.t 50) (.c (.int .i64 0))) <|
    .one none (.pk 52 (.t 48) (.c (.bool true)) (.t 51)) <|
    .one none (.mv 53 (.t 52)) <|
    .one (some (53, false)) (.mv 54 (.t 0)) <|
    .one (some (53, false)) (.ca (some 55) (.c (.clo 64 [] [])) [(false, (.t 54)), (false, (.c (.int .u8 13)))]) <|
    .one (some (53, false)) (.bi 56 .geq (.t 55) (.c (.int .i64 0))) <|
    .one none (.pk 57 (.t 53) (.c (.bool true)) (.t 56)) <|
    .one none (.tk 38 (.t 57)) <|
    .nil) <|
  .cond (.t 38) (.seq (.reg <|
     .one none (.tk 4 (.c (.bool false))) <|
     .nil) <|
   .ret) <|
  .skip) <|
 .seq (.reg <|
   .one none (.mv 58 (.t 0)) <|
   .one none (.mv 59 (.t 1)) <|
   .one none (.ca (some 60) (.c (.clo 148 [] [])) [(false, (.t 58)), (false, (.t 59))]) <|
   .one none (.mv 61 (.t 0)) <|
   .one none (.ln 62 true (.t 61)) <|
   .one none (.bi 63 .eql (.t 60) (.t 62)) <|
   .one none (.tk 4 (.t 63)) <|
   .nil) <|
 .ret⟩
theorem has94 : Has Tryz.prog [] 94 ir94 := has_of Tryz.func94 (by kernel_rfl)
end Gx
