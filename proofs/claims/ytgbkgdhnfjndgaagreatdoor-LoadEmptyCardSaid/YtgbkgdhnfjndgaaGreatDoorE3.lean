import Derived.Test.YtgbkgdhnfjndgaaGreatDoorE2
import Derived.KernelRfl
import Derived.Lib.ItoaLen
import Derived.Lib.QuoteLoop
import Derived.Lib.TrimU
import Derived.Test.YtgbkgdhnfjndgaaGreatDoorProg
import Derived.Test.YtgbkgdhnfjndgaaGreatDoorSh
/- A part of the proof: a calculus of values over the model, and the functions that the statement reaches, each once, in that calculus. -/
set_option linter.all false
set_option linter.unusedSimpArgs false
set_option linter.unusedVariables false

/- Part Ir6. -/
open Go Go.Proofs Gx
namespace Gx
def ir197 : If := ⟨68, [.t 2, .t 3, .t 4],
 .seq (.reg <|
   .one none (.tk 2 (.c (.int .i64 0))) <|
   .one none (.tk 3 (.c (.int .i64 0))) <|
   .one none (.tk 4 (.c (.int .i64 0))) <|
   .nil) <|
 .seq (.seq (.reg <|
    .one none (.mv 11 (.t 0)) <|
    .one none (.ln 12 true (.t 11)) <|
    .one none (.bi 13 .lss (.t 12) (.c (.int .i64 2))) <|
    .nil) <|
  .cond (.t 13) (.seq (.reg <|
     .one none (.tk 2 (.c (.int .i64 0))) <|
     .one none (.tk 3 (.c (.int .i64 0))) <|
     .one none (.tk 4 (.c (.int .i64 4))) <|
     .nil) <|
   .ret) <|
  .skip) <|
 .seq (.reg <|
   .one none (.tk 5 (.c (.int .i64 0))) <|
   .nil) <|
 .seq (.seq (.reg <|
    .one none (.mv 14 (.t 0)) <|
    .one none (.ix 15 (.t 14) (.c (.int .i64 1))) <|
    .nil) <|
  .block 0 <|
  .seq (.seq (.reg <|
     .one none (.bi 17 .eql (.t 15) (.c (.int .u8 34))) <|
     .one none (.tk 16 (.t 17)) <|
     .nil) <|
   .cond (.t 16) (.skip) <|
   .reg <|
    .one none (.bi 18 .eql (.t 15) (.c (.int .u8 92))) <|
    .one none (.tk 16 (.t 18)) <|
    .nil) <|
  .cond (.t 16) (.seq (.reg <|
     .one none (.mv 19 (.t 0)) <|
     .one none (.ix 20 (.t 19) (.c (.int .i64 1))) <|
     .one none (.cv 21 (.ints .i64) (.t 20)) <|
     .one none (.tk 2 (.t 21)) <|
     .one none (.tk 3 (.c (.int .i64 2))) <|
     .one none (.tk 4 (.c (.int .i64 0))) <|
     .nil) <|
   .ret) <|
  .seq (.reg <|
    .one none (.bi 23 .eql (.t 15) (.c (.int .u8 110))) <|
    .one none (.tk 22 (.t 23)) <|
    .nil) <|
  .cond (.t 22) (.seq (.reg <|
     .one none (.tk 2 (.c (.int .i64 10))) <|
     .one none (.tk 3 (.c (.int .i64 2))) <|
     .one none (.tk 4 (.c (.int .i64 0))) <|
     .nil) <|
   .ret) <|
  .seq (.reg <|
    .one none (.bi 25 .eql (.t 15) (.c (.int .u8 116))) <|
    .one none (.tk 24 (.t 25)) <|
    .nil) <|
  .cond (.t 24) (.seq (.reg <|
     .one none (.tk 2 (.c (.int .i64 9))) <|
     .one none (.tk 3 (.c (.int .i64 2))) <|
     .one none (.tk 4 (.c (.int .i64 0))) <|
     .nil) <|
   .ret) <|
  .seq (.reg <|
    .one none (.bi 27 .eql (.t 15) (.c (.int .u8 114))) <|
    .one none (.tk 26 (.t 27)) <|
    .nil) <|
  .cond (.t 26) (.seq (.reg <|
     .one none (.tk 2 (.c (.int .i64 13))) <|
     .one none (.tk 3 (.c (.int .i64 2))) <|
     .one none (.tk 4 (.c (.int .i64 0))) <|
     .nil) <|
   .ret) <|
  .seq (.reg <|
    .one none (.bi 29 .eql (.t 15) (.c (.int .u8 48))) <|
    .one none (.tk 28 (.t 29)) <|
    .nil) <|
  .cond (.t 28) (.seq (.reg <|
     .one none (.tk 2 (.c (.int .i64 0))) <|
     .one none (.tk 3 (.c (.int .i64 2))) <|
     .one none (.tk 4 (.c (.int .i64 0))) <|
     .nil) <|
   .ret) <|
  .seq (.reg <|
    .one none (.bi 31 .eql (.t 15) (.c (.int .u8 120))) <|
    .one none (.tk 30 (.t 31)) <|
    .nil) <|
  .cond (.t 30) (.reg <|
    .one none (.tk 5 (.c (.int .i64 2))) <|
    .nil) <|
  .seq (.reg <|
    .one none (.bi 33 .eql (.t 15) (.c (.int .u8 117))) <|
    .one none (.tk 32 (.t 33)) <|
    .nil) <|
  .cond (.t 32) (.reg <|
    .one none (.tk 5 (.c (.int .i64 4))) <|
    .nil) <|
  .seq (.reg <|
    .one none (.bi 35 .eql (.t 15) (.c (.int .u8 85))) <|
    .one none (.tk 34 (.t 35)) <|
    .nil) <|
  .cond (.t 34) (.reg <|
    .one none (.tk 5 (.c (.int .i64 8))) <|
    .nil) <|
  .seq (.reg <|
    .one none (.tk 2 (.c (.int .i64 0))) <|
    .one none (.tk 3 (.c (.int .i64 0))) <|
    .one none (.tk 4 (.c (.int .i64 3))) <|
    .nil) <|
  .ret) <|
 .seq (.reg <|
   .one none (.mv 36 (.t 0)) <|
   .one none (.mv 37 (.t 5)) <|
   .one none (.bi 38 .add (.c (.int .i64 2)) (.t 37)) <|
   .one none (.mv 39 (.t 0)) <|
   .one none (.ln 40 true (.t 39)) <|
   .one none (.mm 41 false (.t 38) (.t 40)) <|
   .one none (.sc 42 0 (.t 36) (some (.c (.int .i64 2))) (some (.t 41)) none) <|
   .one none (.tk 6 (.t 42)) <|
   .nil) <|
 .seq (.seq (.reg <|
    .one none (.mv 43 (.t 6)) <|
    .one none (.ca (some 44) (.c (.clo 150 [] [])) [(false, (.t 43)), (false, (.c (.str [48, 49, 50, 51, 52, 53, 54, 55, 56, 57, 97, 98, 99, 100, 101, 102, 65, 66, 67, 68, 69, 70])))]) <|
    .one none (.bi 45 .neq (.t 44) (.c (.str []))) <|
    .nil) <|
  .cond (.t 45) (.seq (.reg <|
     .one none (.tk 2 (.c (.int .i64 0))) <|
     .one none (.tk 3 (.c (.int .i64 0))) <|
     .one none (.tk 4 (.c (.int .i64 3))) <|
     .nil) <|
   .ret) <|
  .skip) <|
 .seq (.seq (.reg <|
    .one none (.mv 46 (.t 6)) <|
    .one none (.ln 47 true (.t 46)) <|
    .one none (.mv 48 (.t 5)) <|
    .one none (.bi 49 .lss (.t 47) (.t 48)) <|
    .nil) <|
  .cond (.t 49) (.seq (.reg <|
     .one none (.tk 2 (.c (.int .i64 0))) <|
     .one none (.tk 3 (.c (.int .i64 0))) <|
     .one none (.tk 4 (.c (.int .i64 4))) <|
     .nil) <|
   .ret) <|
  .skip) <|
 .seq (.reg <|
   .one none (.mv 51 (.t 6)) <|
   .one none (.ca (some 52) (.c (.clo 224 [] [])) [(false, (.t 51)), (false, (.c (.int .i64 16))), (false, (.c (.int .i64 64)))]) <|
   .one none (.mv 50 (.t 52)) <|
   .one none (.ex 53 (.t 50) 0) <|
   .one none (.ex 54 (.t 50) 1) <|
   .one none (.tk 7 (.t 53)) <|
   .one none (.tk 8 (.t 54)) <|
   .nil) <|
 .seq (.seq (.reg <|
    .one none (.mv 56 (.t 7)) <|
    .one none (.cv 57 (.ints .i64) (.t 56)) <|
    .one none (.bs 58 3 1 [(.t 57)]) <|
    .one none (.ca (some 59) (.c (.clo 198 [] [])) [(false, (.t 58))]) <|
    .one none (.mv 55 (.t 59)) <|
    .one none (.ex 60 (.t 55) 0) <|
    .one none (.ex 61 (.t 55) 1) <|
    .one none (.tk 9 (.t 60)) <|
    .one none (.tk 10 (.t 61)) <|
    .nil) <|
  .seq (.reg <|
    .one none (.mv 62 (.t 10)) <|
    .one none (.bi 63 .neq (.t 62) (.c (.int .i64 0))) <|
    .nil) <|
  .cond (.t 63) (.seq (.reg <|
     .one none (.tk 2 (.c (.int .i64 0))) <|
     .one none (.tk 3 (.c (.int .i64 0))) <|
     .one none (.tk 4 (.c (.int .i64 3))) <|
     .nil) <|
   .ret) <|
  .skip) <|
 .seq (.reg <|
   .one none (.mv 64 (.t 7)) <|
   .one none (.cv 65 (.ints .i64) (.t 64)) <|
   .one none (.mv 66 (.t 5)) <|
   .one none (.bi 67 .add (.c (.int .i64 2)) (.t 66)) <|
   .one none (.tk 2 (.t 65)) <|
   .one none (.tk 3 (.t 67)) <|
   .one none (.tk 4 (.c (.int .i64 0))) <|
   .nil) <|
 .ret⟩
theorem has197 : Has Tryz.prog [] 197 ir197 := has_of Tryz.func197 (by kernel_rfl)
def ir198 : If := ⟨30, [.t 2, .t 3],
 .seq (.reg <|
   .one none (.tk 2 (.c (.str []))) <|
   .one none (.tk 3 (.c (.int .i64 0))) <|
   .nil) <|
 .seq (.reg <|
   .one none (.al 4 102 [.nilp, (.sl true [])]) <|
   .nil) <|
 .seq (.seq (.reg <|
    .one none (.mv 7 (.t 0)) <|
    .one none (.ln 8 false (.t 7)) <|
    .one none (.mv 9 (.c (.int .i64 0))) <|
    .nil) <|
  .block 0 <|
  .loop <|
  .seq (.reg <|
    .one none (.bi 10 .lss (.t 9) (.t 8)) <|
    .nil) <|
  .seq (.cond (.t 10) (.skip) <|
   .exit 0) <|
  .seq (.block 1 <|
   .seq (.reg <|
     .one none (.ia 11 1 (.t 7) (.t 9)) <|
     .one none (.ld 12 none (.t 11)) <|
     .one none (.tk 6 (.t 12)) <|
     .nil) <|
   .seq (.seq (.reg <|
      .one none (.mv 13 (.t 6)) <|
      .one none (.bi 14 .lss (.t 13) (.c (.int .i64 0))) <|
      .one none (.mv 15 (.t 14)) <|
      .one (some (15, false)) (.mv 16 (.t 6)) <|
      .one (some (15, false)) (.bi 17 .gtr (.t 16) (.c (.int .i64 1114111))) <|
      .one none (.pk 18 (.t 15) (.c (.bool true)) (.t 17)) <|
      .one none (.mv 19 (.t 18)) <|
      .one (some (19, false)) (.mv 20 (.t 6)) <|
      .one (some (19, false)) (.cv 21 (.ints .i32) (.t 20)) <|
      .one (some (19, false)) (.ca (some 22) (.c (.clo 221 [] [])) [(false, (.t 21))]) <|
      .one (some (19, false)) (.no 23 .not (.t 22)) <|
      .one none (.pk 24 (.t 19) (.c (.bool true)) (.t 23)) <|
      .nil) <|
    .cond (.t 24) (.seq (.reg <|
       .one none (.tk 2 (.c (.str []))) <|
       .one none (.tk 3 (.c (.int .i64 8))) <|
       .nil) <|
     .ret) <|
    .skip) <|
   .reg <|
    .one none (.mv 25 (.t 6)) <|
    .one none (.cv 26 (.ints .i32) (.t 25)) <|
    .one none (.ca (some 27) (.c (.clo 225 [] [])) [(false, (.t 4)), (false, (.t 26))]) <|
    .nil) <|
  .reg <|
   .one none (.bi 28 .add (.t 9) (.c (.int .i64 1))) <|
   .one none (.mv 9 (.t 28)) <|
   .nil) <|
 .seq (.reg <|
   .one none (.ca (some 29) (.c (.clo 74 [] [])) [(false, (.t 4))]) <|
   .one none (.tk 2 (.t 29)) <|
   .one none (.tk 3 (.c (.int .i64 0))) <|
   .nil) <|
 .ret⟩
theorem has198 : Has Tryz.prog [] 198 ir198 := has_of Tryz.func198 (by kernel_rfl)
def ir199 : If := ⟨17, [.t 2],
 .seq (.reg <|
   .one none (.tk 2 (.c (.bool false))) <|
   .nil) <|
 .seq (.reg <|
   .one none (.mv 3 (.t 0)) <|
   .one none (.ca (some 4) (.c (.clo 113 [] [])) [(false, (.t 3))]) <|
   .one none (.mv 5 (.t 4)) <|
   .one (some (5, true)) (.mv 6 (.t 0)) <|
   .one (some (5, true)) (.bi 7 .neq (.t 6) (.c (.int .i64 9))) <|
   .one none (.pk 8 (.t 5) (.t 7) (.c (.bool false))) <|
   .one none (.mv 9 (.t 8)) <|
   .one (some (9, true)) (.mv 10 (.t 0)) <|
   .one (some (9, true)) (.bi 11 .neq (.t 10) (.c (.int .i64 10))) <|
   .one none (.pk 12 (.t 9) (.t 11) (.c (.bool false))) <|
   .one none (.mv 13 (.t 12)) <|
   .one (some (13, true)) (.mv 14 (.t 0)) <|
   .one (some (13, true)) (.bi 15 .neq (.t 14) (.c (.int .i64 13))) <|
   .one none (.pk 16 (.t 13) (.t 15) (.c (.bool false))) <|
   .one none (.tk 2 (.t 16)) <|
   .nil) <|
 .ret⟩
theorem has199 : Has Tryz.prog [] 199 ir199 := has_of Tryz.func199 (by kernel_rfl)
def ir200 : If := ⟨32, [.t 4],
 .seq (.reg <|
   .one none (.tk 4 (.c (.bool false))) <|
   .nil) <|
 .seq (.seq (.reg <|
    .one none (.ld 5 none (.t 1)) <|
    .one none (.mv 6 (.t 0)) <|
    .one none (.ix 7 (.t 5) (.t 6)) <|
    .nil) <|
  .block 0 <|
  .seq (.reg <|
    .one none (.bi 9 .eql (.t 7) (.c (.int .u8 58))) <|
    .one none (.tk 8 (.t 9)) <|
    .nil) <|
  .cond (.t 8) (.seq (.reg <|
     .one none (.mv 11 (.t 0)) <|
     .one none (.bi 12 .add (.t 11) (.c (.int .i64 1))) <|
     .any [
       .one none (.ld 10 none (.t 1)) <|
        .one none (.sc 13 0 (.t 10) (some (.t 12)) none none) <|
        .one none (.ld 14 none (.t 2)) <|
        .one none (.ca (some 15) (.c (.clo 151 [] [])) [(false, (.t 13)), (false, (.t 14))]) <|
        .one none (.tk 4 (.t 15)) <|
        .nil,
       .one none (.ld 14 none (.t 2)) <|
        .one none (.ld 10 none (.t 1)) <|
        .one none (.sc 13 0 (.t 10) (some (.t 12)) none none) <|
        .one none (.ca (some 15) (.c (.clo 151 [] [])) [(false, (.t 13)), (false, (.t 14))]) <|
        .one none (.tk 4 (.t 15)) <|
        .nil]) <|
   .ret) <|
  .seq (.reg <|
    .one none (.bi 17 .eql (.t 7) (.c (.int .u8 35))) <|
    .one none (.tk 16 (.t 17)) <|
    .nil) <|
  .cond (.t 16) (.seq (.reg <|
     .one none (.mv 18 (.t 0)) <|
     .one none (.bi 19 .gtr (.t 18) (.c (.int .i64 0))) <|
     .one none (.mv 20 (.t 19)) <|
     .one (some (20, true)) (.ld 21 none (.t 1)) <|
     .one (some (20, true)) (.mv 22 (.t 0)) <|
     .one (some (20, true)) (.bi 23 .sub (.t 22) (.c (.int .i64 1))) <|
     .one (some (20, true)) (.ix 24 (.t 21) (.t 23)) <|
     .one (some (20, true)) (.bi 25 .eql (.t 24) (.c (.int .u8 32))) <|
     .one none (.pk 26 (.t 20) (.t 25) (.c (.bool false))) <|
     .one none (.tk 4 (.t 26)) <|
     .nil) <|
   .ret) <|
  .skip) <|
 .seq (.reg <|
   .one none (.mv 28 (.t 0)) <|
   .any [
     .one none (.ld 27 none (.t 1)) <|
      .one none (.sc 29 0 (.t 27) (some (.t 28)) none none) <|
      .one none (.ld 30 none (.t 2)) <|
      .one none (.ca (some 31) (.c (.clo 201 [] [])) [(false, (.t 29)), (false, (.t 30))]) <|
      .one none (.tk 4 (.t 31)) <|
      .nil,
     .one none (.ld 30 none (.t 2)) <|
      .one none (.ld 27 none (.t 1)) <|
      .one none (.sc 29 0 (.t 27) (some (.t 28)) none none) <|
      .one none (.ca (some 31) (.c (.clo 201 [] [])) [(false, (.t 29)), (false, (.t 30))]) <|
      .one none (.tk 4 (.t 31)) <|
      .nil]) <|
 .ret⟩
theorem has200 : Has Tryz.prog [] 200 ir200 := has_of Tryz.func200 (by kernel_rfl)
def ir201 : If := ⟨16, [.t 4],
 .seq (.reg <|
   .one none (.tk 4 (.c (.bool false))) <|
   .nil) <|
 .seq (.reg <|
   .one none (.mv 5 (.t 1)) <|
   .one none (.mv 6 (.t 5)) <|
   .one (some (6, true)) (.mv 7 (.t 0)) <|
   .one (some (6, true)) (.bi 8 .neq (.t 7) (.c (.str []))) <|
   .one none (.pk 9 (.t 6) (.t 8) (.c (.bool false))) <|
   .one none (.mv 10 (.t 9)) <|
   .one (some (10, true)) (.mv 11 (.t 0)) <|
   .one (some (10, true)) (.ix 12 (.t 11) (.c (.int .i64 0))) <|
   .one (some (10, true)) (.ca (some 13) (.c (.clo 64 [] [])) [(false, (.c (.str [44, 91, 93, 123, 125]))), (false, (.t 12))]) <|
   .one (some (10, true)) (.bi 14 .geq (.t 13) (.c (.int .i64 0))) <|
   .one none (.pk 15 (.t 10) (.t 14) (.c (.bool false))) <|
   .one none (.tk 4 (.t 15)) <|
   .nil) <|
 .ret⟩
theorem has201 : Has Tryz.prog [] 201 ir201 := has_of Tryz.func201 (by kernel_rfl)
def ir203 : If := ⟨5, [.t 2],
 .seq (.reg <|
   .one none (.tk 2 (.c (.str []))) <|
   .nil) <|
 .seq (.reg <|
   .one none (.mv 3 (.t 0)) <|
   .one none (.ca (some 4) (.c (.clo 228 [] [])) [(false, (.t 3))]) <|
   .one none (.tk 2 (.t 4)) <|
   .nil) <|
 .ret⟩
theorem has203 : Has Tryz.prog [] 203 ir203 := has_of Tryz.func203 (by kernel_rfl)
def ir204 : If := ⟨10, [.t 3],
 .seq (.reg <|
   .one none (.tk 3 (.c (.bool false))) <|
   .nil) <|
 .seq (.reg <|
   .one none (.lt 4 (.t 1)) <|
   .one none (.mv 5 (.t 0)) <|
   .one none (.bs 6 3 1 [(.t 5)]) <|
   .one none (.ap 7 3 1 (.t 4) (.t 6)) <|
   .one none (.st 1 (.t 1) (.t 7)) <|
   .nil) <|
 .seq (.reg <|
   .one none (.mv 8 (.t 0)) <|
   .one none (.bi 9 .geq (.t 8) (.c (.int .i64 0))) <|
   .one none (.tk 3 (.t 9)) <|
   .nil) <|
 .ret⟩
theorem has204 : Has Tryz.prog [] 204 ir204 := has_of Tryz.func204 (by kernel_rfl)
def ir205 : If := ⟨21, [.t 4],
 .seq (.reg <|
   .one none (.tk 4 (.c (.bool false))) <|
   .nil) <|
 .seq (.reg <|
   .one none (.mv 5 (.t 0)) <|
   .one none (.ln 6 true (.t 5)) <|
   .one none (.mv 7 (.t 1)) <|
   .one none (.ln 8 true (.t 7)) <|
   .one none (.bi 9 .geq (.t 6) (.t 8)) <|
   .one none (.mv 10 (.t 9)) <|
   .one (some (10, true)) (.mv 11 (.t 0)) <|
   .one (some (10, true)) (.mv 12 (.t 0)) <|
   .one (some (10, true)) (.ln 13 true (.t 12)) <|
   .one (some (10, true)) (.mv 14 (.t 1)) <|
   .one (some (10, true)) (.ln 15 true (.t 14)) <|
   .one (some (10, true)) (.bi 16 .sub (.t 13) (.t 15)) <|
   .one (some (10, true)) (.sc 17 0 (.t 11) (some (.t 16)) none none) <|
   .one (some (10, true)) (.mv 18 (.t 1)) <|
   .one (some (10, true)) (.bi 19 .eql (.t 17) (.t 18)) <|
   .one none (.pk 20 (.t 10) (.t 19) (.c (.bool false))) <|
   .one none (.tk 4 (.t 20)) <|
   .nil) <|
 .ret⟩
theorem has205 : Has Tryz.prog [] 205 ir205 := has_of Tryz.func205 (by kernel_rfl)
def ir207 : If := ⟨48, [.t 2],
 .seq (.reg <|
   .one none (.tk 2 (.c (.int .i64 0))) <|
   .nil) <|
 .seq (.reg <|
   .one none (.mv 6 (.t 0)) <|
   .one none (.mv 7 (.t 0)) <|
   .one none (.nc 8 (.t 7)) <|
   .one none (.fa 9 1 (.t 8)) <|
   .one none (.ld 10 none (.t 9)) <|
   .one none (.sc 11 0 (.t 10) (some (.c (.int .i64 1))) none none) <|
   .one none (.nc 12 (.t 6)) <|
   .one none (.fa 13 1 (.t 12)) <|
   .one none (.st 1 (.t 13) (.t 11)) <|
   .nil) <|
 .seq (.seq (.reg <|
    .one none (.mv 14 (.t 0)) <|
    .one none (.ca (some 15) (.c (.clo 170 [] [])) [(false, (.t 14)), (false, (.c (.str [33])))]) <|
    .one none (.no 16 .not (.t 15)) <|
    .nil) <|
  .cond (.t 16) (.seq (.reg <|
     .one none (.mv 17 (.t 0)) <|
     .one none (.ca (some 18) (.c (.clo 171 [] [])) [(false, (.t 17))]) <|
     .nil) <|
   .seq (.reg <|
     .one none (.tk 2 (.c (.int .i64 0))) <|
     .nil) <|
   .ret) <|
  .skip) <|
 .seq (.reg <|
   .one none (.mv 19 (.t 0)) <|
   .one none (.mv 20 (.t 0)) <|
   .one none (.nc 21 (.t 20)) <|
   .one none (.fa 22 1 (.t 21)) <|
   .one none (.ld 23 none (.t 22)) <|
   .one none (.sc 24 0 (.t 23) (some (.c (.int .i64 1))) none none) <|
   .one none (.nc 25 (.t 19)) <|
   .one none (.fa 26 1 (.t 25)) <|
   .one none (.st 1 (.t 26) (.t 24)) <|
   .nil) <|
 .seq (.reg <|
   .one none (.mv 27 (.t 0)) <|
   .one none (.mv 29 (.t 0)) <|
   .one none (.nc 30 (.t 29)) <|
   .one none (.fa 31 1 (.t 30)) <|
   .any [
     .one none (.ca (some 28) (.c (.clo 121 [] [])) [(false, (.t 27))]) <|
      .any [
        .one none (.ld 32 none (.t 31)) <|
         .one none (.bi 33 .eql (.t 32) (.c (.str []))) <|
         .one none (.tk 3 (.t 28)) <|
         .one none (.tk 4 (.t 33)) <|
         .nil,
        .one none (.tk 3 (.t 28)) <|
         .one none (.ld 32 none (.t 31)) <|
         .one none (.bi 33 .eql (.t 32) (.c (.str []))) <|
         .one none (.tk 4 (.t 33)) <|
         .nil],
     .one none (.ld 32 none (.t 31)) <|
      .one none (.bi 33 .eql (.t 32) (.c (.str []))) <|
      .one none (.ca (some 28) (.c (.clo 121 [] [])) [(false, (.t 27))]) <|
      .one none (.tk 3 (.t 28)) <|
      .one none (.tk 4 (.t 33)) <|
      .nil]) <|
 .seq (.reg <|
   .one none (.ca (some 34) (.c (.clo 229 [] [])) []) <|
   .one none (.mv 35 (.t 0)) <|
   .one none (.ca (some 36) (.c (.clo 208 [] [])) [(false, (.t 35)), (false, (.c (.str [97, 98, 99, 100, 101, 102, 103, 104, 105, 106, 107, 108, 109, 110, 111, 112, 113, 114, 115, 116, 117, 118, 119, 120, 121, 122])))]) <|
   .one none (.ca (some 37) (.c (.clo 183 [] [])) [(false, (.t 34)), (false, (.t 36))]) <|
   .one none (.bi 38 .add (.t 37) (.c (.int .i64 1))) <|
   .one none (.tk 5 (.t 38)) <|
   .nil) <|
 .seq (.seq (.reg <|
    .one none (.mv 39 (.t 4)) <|
    .nil) <|
  .cond (.t 39) (.reg <|
    .one none (.mv 40 (.t 0)) <|
    .one none (.ca (some 41) (.c (.clo 171 [] [])) [(false, (.t 40))]) <|
    .nil) <|
  .seq (.reg <|
    .one none (.mv 42 (.t 5)) <|
    .one none (.bi 43 .eql (.t 42) (.c (.int .i64 0))) <|
    .nil) <|
  .cond (.t 43) (.reg <|
    .one none (.mv 44 (.t 0)) <|
    .one none (.mv 45 (.t 3)) <|
    .one none (.ca (some 46) (.c (.clo 175 [] [])) [(false, (.t 44)), (false, (.c (.int .i64 3))), (false, (.t 45))]) <|
    .nil) <|
  .skip) <|
 .seq (.reg <|
   .one none (.mv 47 (.t 5)) <|
   .one none (.tk 2 (.t 47)) <|
   .nil) <|
 .ret⟩
theorem has207 : Has Tryz.prog [] 207 ir207 := has_of Tryz.func207 (by kernel_rfl)
def ir208 : If := ⟨36, [.t 4],
 .seq (.reg <|
   .one none (.tk 4 (.c (.str []))) <|
   .nil) <|
 .seq (.reg <|
   .one none (.mv 7 (.t 0)) <|
   .one none (.nc 8 (.t 7)) <|
   .one none (.fa 9 1 (.t 8)) <|
   .one none (.mv 12 (.t 0)) <|
   .one none (.nc 13 (.t 12)) <|
   .one none (.fa 14 1 (.t 13)) <|
   .one none (.mv 16 (.t 1)) <|
   .any [
     .one none (.ld 10 none (.t 9)) <|
      .one none (.ln 11 true (.t 10)) <|
      .one none (.ld 15 none (.t 14)) <|
      .one none (.ca (some 17) (.c (.clo 230 [] [])) [(false, (.t 15)), (false, (.t 16))]) <|
      .one none (.ln 18 true (.t 17)) <|
      .one none (.bi 19 .sub (.t 11) (.t 18)) <|
      .one none (.tk 5 (.t 19)) <|
      .nil,
     .one none (.ld 15 none (.t 14)) <|
      .any [
        .one none (.ld 10 none (.t 9)) <|
         .one none (.ln 11 true (.t 10)) <|
         .one none (.ca (some 17) (.c (.clo 230 [] [])) [(false, (.t 15)), (false, (.t 16))]) <|
         .one none (.ln 18 true (.t 17)) <|
         .one none (.bi 19 .sub (.t 11) (.t 18)) <|
         .one none (.tk 5 (.t 19)) <|
         .nil,
        .one none (.ca (some 17) (.c (.clo 230 [] [])) [(false, (.t 15)), (false, (.t 16))]) <|
         .one none (.ln 18 true (.t 17)) <|
         .one none (.ld 10 none (.t 9)) <|
         .one none (.ln 11 true (.t 10)) <|
         .one none (.bi 19 .sub (.t 11) (.t 18)) <|
         .one none (.tk 5 (.t 19)) <|
         .nil]]) <|
 .seq (.reg <|
   .one none (.mv 20 (.t 0)) <|
   .one none (.nc 21 (.t 20)) <|
   .one none (.fa 22 1 (.t 21)) <|
   .one none (.ld 23 none (.t 22)) <|
   .one none (.mv 24 (.t 5)) <|
   .one none (.sc 25 0 (.t 23) none (some (.t 24)) none) <|
   .one none (.tk 6 (.t 25)) <|
   .nil) <|
 .seq (.reg <|
   .one none (.mv 26 (.t 0)) <|
   .one none (.mv 27 (.t 0)) <|
   .one none (.nc 28 (.t 27)) <|
   .one none (.fa 29 1 (.t 28)) <|
   .one none (.ld 30 none (.t 29)) <|
   .one none (.mv 31 (.t 5)) <|
   .one none (.sc 32 0 (.t 30) (some (.t 31)) none none) <|
   .one none (.nc 33 (.t 26)) <|
   .one none (.fa 34 1 (.t 33)) <|
   .one none (.st 1 (.t 34) (.t 32)) <|
   .nil) <|
 .seq (.reg <|
   .one none (.mv 35 (.t 6)) <|
   .one none (.tk 4 (.t 35)) <|
   .nil) <|
 .ret⟩
theorem has208 : Has Tryz.prog [] 208 ir208 := has_of Tryz.func208 (by kernel_rfl)
def ir209 : If := ⟨16, [],
 .seq (.reg <|
   .one none (.bx 3 25 2 (.t 1)) <|
   .nil) <|
 .seq (.reg <|
   .one none (.ld 4 (some 2) (.t 3)) <|
   .one none (.bd 5 [(.int .i64 0), (.int .i64 0)] []) <|
   .one none (.eq 6 true [1, 1] (.t 4) (.t 5)) <|
   .nil) <|
 .cond (.t 6) (.reg <|
   .one none (.mv 7 (.t 0)) <|
   .one none (.fa 8 0 (.t 3)) <|
   .one none (.mv 10 (.t 0)) <|
   .one none (.fa 12 1 (.t 3)) <|
   .any [
     .one none (.ld 9 none (.t 8)) <|
      .any [
        .one none (.ca (some 11) (.c (.clo 121 [] [])) [(false, (.t 10))]) <|
         .one none (.ld 13 none (.t 12)) <|
         .one none (.bi 14 .add (.t 11) (.t 13)) <|
         .one none (.ca (some 15) (.c (.clo 175 [] [])) [(false, (.t 7)), (false, (.t 9)), (false, (.t 14))]) <|
         .nil,
        .one none (.ld 13 none (.t 12)) <|
         .one none (.ca (some 11) (.c (.clo 121 [] [])) [(false, (.t 10))]) <|
         .one none (.bi 14 .add (.t 11) (.t 13)) <|
         .one none (.ca (some 15) (.c (.clo 175 [] [])) [(false, (.t 7)), (false, (.t 9)), (false, (.t 14))]) <|
         .nil],
     .one none (.ca (some 11) (.c (.clo 121 [] [])) [(false, (.t 10))]) <|
      .any [
        .one none (.ld 9 none (.t 8)) <|
         .one none (.ld 13 none (.t 12)) <|
         .one none (.bi 14 .add (.t 11) (.t 13)) <|
         .one none (.ca (some 15) (.c (.clo 175 [] [])) [(false, (.t 7)), (false, (.t 9)), (false, (.t 14))]) <|
         .nil,
        .one none (.ld 13 none (.t 12)) <|
         .one none (.bi 14 .add (.t 11) (.t 13)) <|
         .one none (.ld 9 none (.t 8)) <|
         .one none (.ca (some 15) (.c (.clo 175 [] [])) [(false, (.t 7)), (false, (.t 9)), (false, (.t 14))]) <|
         .nil],
     .one none (.ld 13 none (.t 12)) <|
      .any [
        .one none (.ld 9 none (.t 8)) <|
         .one none (.ca (some 11) (.c (.clo 121 [] [])) [(false, (.t 10))]) <|
         .one none (.bi 14 .add (.t 11) (.t 13)) <|
         .one none (.ca (some 15) (.c (.clo 175 [] [])) [(false, (.t 7)), (false, (.t 9)), (false, (.t 14))]) <|
         .nil,
        .one none (.ca (some 11) (.c (.clo 121 [] [])) [(false, (.t 10))]) <|
         .one none (.bi 14 .add (.t 11) (.t 13)) <|
         .one none (.ld 9 none (.t 8)) <|
         .one none (.ca (some 15) (.c (.clo 175 [] [])) [(false, (.t 7)), (false, (.t 9)), (false, (.t 14))]) <|
         .nil]]) <|
 .skip⟩
theorem has209 : Has Tryz.prog [] 209 ir209 := has_of Tryz.func209 (by kernel_rfl)
def ir212 : If := ⟨23, [.t 4, .t 5, .t 6],
 .seq (.reg <|
   .one none (.tk 4 (.c (.str []))) <|
   .one none (.tk 5 (.c (.str []))) <|
   .one none (.tk 6 (.c (.bool false))) <|
   .nil) <|
 .seq (.seq (.reg <|
    .one none (.mv 8 (.t 0)) <|
    .one none (.mv 9 (.t 1)) <|
    .one none (.ca (some 10) (.c (.clo 233 [] [])) [(false, (.t 8)), (false, (.t 9))]) <|
    .one none (.tk 7 (.t 10)) <|
    .nil) <|
  .seq (.reg <|
    .one none (.mv 11 (.t 7)) <|
    .one none (.bi 12 .geq (.t 11) (.c (.int .i64 0))) <|
    .nil) <|
  .cond (.t 12) (.seq (.reg <|
     .one none (.mv 13 (.t 0)) <|
     .one none (.mv 14 (.t 7)) <|
     .one none (.sc 15 0 (.t 13) none (some (.t 14)) none) <|
     .one none (.mv 16 (.t 0)) <|
     .one none (.mv 17 (.t 7)) <|
     .one none (.mv 18 (.t 1)) <|
     .one none (.ln 19 true (.t 18)) <|
     .one none (.bi 20 .add (.t 17) (.t 19)) <|
     .one none (.sc 21 0 (.t 16) (some (.t 20)) none none) <|
     .one none (.tk 4 (.t 15)) <|
     .one none (.tk 5 (.t 21)) <|
     .one none (.tk 6 (.c (.bool true))) <|
     .nil) <|
   .ret) <|
  .skip) <|
 .seq (.reg <|
   .one none (.mv 22 (.t 0)) <|
   .one none (.tk 4 (.t 22)) <|
   .one none (.tk 5 (.c (.str []))) <|
   .one none (.tk 6 (.c (.bool false))) <|
   .nil) <|
 .ret⟩
theorem has212 : Has Tryz.prog [] 212 ir212 := has_of Tryz.func212 (by kernel_rfl)
def ir216 : If := ⟨10, [.t 2],
 .seq (.reg <|
   .one none (.tk 2 (.c (.bool false))) <|
   .nil) <|
 .seq (.reg <|
   .one none (.mv 3 (.t 0)) <|
   .one none (.bi 4 .neq (.t 3) (.c (.str []))) <|
   .one none (.mv 5 (.t 4)) <|
   .one (some (5, true)) (.mv 6 (.t 0)) <|
   .one (some (5, true)) (.ix 7 (.t 6) (.c (.int .i64 0))) <|
   .one (some (5, true)) (.bi 8 .neq (.t 7) (.c (.int .u8 32))) <|
   .one none (.pk 9 (.t 5) (.t 8) (.c (.bool false))) <|
   .one none (.tk 2 (.t 9)) <|
   .nil) <|
 .ret⟩
theorem has216 : Has Tryz.prog [] 216 ir216 := has_of Tryz.func216 (by kernel_rfl)
def ir217 : If := ⟨27, [.t 4],
 .seq (.reg <|
   .one none (.tk 4 (.c (.str []))) <|
   .nil) <|
 .seq (.reg <|
   .one none (.al 5 102 [.nilp, (.sl true [])]) <|
   .nil) <|
 .seq (.seq (.reg <|
    .one none (.mv 8 (.t 0)) <|
    .one none (.ln 9 false (.t 8)) <|
    .one none (.mv 10 (.c (.int .i64 0))) <|
    .nil) <|
  .block 0 <|
  .loop <|
  .seq (.reg <|
    .one none (.bi 11 .lss (.t 10) (.t 9)) <|
    .nil) <|
  .seq (.cond (.t 11) (.skip) <|
   .exit 0) <|
  .seq (.block 1 <|
   .seq (.reg <|
     .one none (.mv 12 (.t 10)) <|
     .one none (.ia 13 1 (.t 8) (.t 10)) <|
     .one none (.ld 14 none (.t 13)) <|
     .one none (.tk 6 (.t 12)) <|
     .one none (.tk 7 (.t 14)) <|
     .nil) <|
   .seq (.seq (.reg <|
      .one none (.mv 15 (.t 6)) <|
      .one none (.bi 16 .gtr (.t 15) (.c (.int .i64 0))) <|
      .nil) <|
    .cond (.t 16) (.reg <|
      .one none (.mv 17 (.t 1)) <|
      .one none (.mv 18 (.t 6)) <|
      .one none (.bi 19 .sub (.t 18) (.c (.int .i64 1))) <|
      .one none (.mv 20 (.t 6)) <|
      .one none (.ca (some 21) (.t 17) [(false, (.t 19)), (false, (.t 20))]) <|
      .one none (.ca (some 22) (.c (.clo 122 [] [])) [(false, (.t 5)), (false, (.t 21))]) <|
      .nil) <|
    .skip) <|
   .reg <|
    .one none (.mv 23 (.t 7)) <|
    .one none (.ca (some 24) (.c (.clo 122 [] [])) [(false, (.t 5)), (false, (.t 23))]) <|
    .nil) <|
  .reg <|
   .one none (.bi 25 .add (.t 10) (.c (.int .i64 1))) <|
   .one none (.mv 10 (.t 25)) <|
   .nil) <|
 .seq (.reg <|
   .one none (.ca (some 26) (.c (.clo 74 [] [])) [(false, (.t 5))]) <|
   .one none (.tk 4 (.t 26)) <|
   .nil) <|
 .ret⟩
theorem has217 : Has Tryz.prog [] 217 ir217 := has_of Tryz.func217 (by kernel_rfl)
def ir218 : If := ⟨40, [.t 7],
 .seq (.reg <|
   .one none (.tk 7 (.c (.str []))) <|
   .nil) <|
 .seq (.reg <|
   .one none (.ld 9 none (.t 2)) <|
   .one none (.mv 10 (.t 1)) <|
   .one none (.ia 11 1 (.t 9) (.t 10)) <|
   .one none (.ld 12 none (.t 11)) <|
   .one none (.tk 8 (.t 12)) <|
   .nil) <|
 .seq (.block 0 <|
  .seq (.reg <|
    .one none (.mv 16 (.t 0)) <|
    .any [
      .one none (.ld 14 none (.t 3)) <|
       .one none (.ld 15 none (.t 4)) <|
       .one none (.ia 17 1 (.t 15) (.t 16)) <|
       .one none (.ld 18 none (.t 17)) <|
       .one none (.ca (some 19) (.t 14) [(false, (.t 18))]) <|
       .one none (.no 20 .not (.t 19)) <|
       .one none (.mv 21 (.t 20)) <|
       .one (some (21, false)) (.mv 22 (.t 8)) <|
       .one (some (21, false)) (.ld 23 none (.t 4)) <|
       .one (some (21, false)) (.ln 24 false (.t 23)) <|
       .one (some (21, false)) (.bi 25 .eql (.t 22) (.t 24)) <|
       .one none (.pk 26 (.t 21) (.c (.bool true)) (.t 25)) <|
       .one none (.mv 27 (.t 26)) <|
       .one (some (27, false)) (.mv 30 (.t 8)) <|
       .any [
         .one (some (27, false)) (.ld 28 none (.t 3)) <|
          .one (some (27, false)) (.ld 29 none (.t 4)) <|
          .one (some (27, false)) (.ia 31 1 (.t 29) (.t 30)) <|
          .one (some (27, false)) (.ld 32 none (.t 31)) <|
          .one (some (27, false)) (.ca (some 33) (.t 28) [(false, (.t 32))]) <|
          .one (some (27, false)) (.no 34 .not (.t 33)) <|
          .one none (.pk 35 (.t 27) (.c (.bool true)) (.t 34)) <|
          .one none (.tk 13 (.t 35)) <|
          .nil,
         .one (some (27, false)) (.ld 29 none (.t 4)) <|
          .one (some (27, false)) (.ia 31 1 (.t 29) (.t 30)) <|
          .any [
            .one (some (27, false)) (.ld 28 none (.t 3)) <|
             .one (some (27, false)) (.ld 32 none (.t 31)) <|
             .one (some (27, false)) (.ca (some 33) (.t 28) [(false, (.t 32))]) <|
             .one (some (27, false)) (.no 34 .not (.t 33)) <|
             .one none (.pk 35 (.t 27) (.c (.bool true)) (.t 34)) <|
             .one none (.tk 13 (.t 35)) <|
             .nil,
            .one (some (27, false)) (.ld 32 none (.t 31)) <|
             .one (some (27, false)) (.ld 28 none (.t 3)) <|
             .one (some (27, false)) (.ca (some 33) (.t 28) [(false, (.t 32))]) <|
             .one (some (27, false)) (.no 34 .not (.t 33)) <|
             .one none (.pk 35 (.t 27) (.c (.bool true)) (.t 34)) <|
             .one none (.tk 13 (.t 35)) <|
             .nil]],
      .one none (.ld 15 none (.t 4)) <|
       .one none (.ia 17 1 (.t 15) (.t 16)) <|
       .any [
         .one none (.ld 14 none (.t 3)) <|
          .one none (.ld 18 none (.t 17)) <|
          .one none (.ca (some 19) (.t 14) [(false, (.t 18))]) <|
          .one none (.no 20 .not (.t 19)) <|
          .one none (.mv 21 (.t 20)) <|
          .one (some (21, false)) (.mv 22 (.t 8)) <|
          .one (some (21, false)) (.ld 23 none (.t 4)) <|
          .one (some (21, false)) (.ln 24 false (.t 23)) <|
          .one (some (21, false)) (.bi 25 .eql (.t 22) (.t 24)) <|
          .one none (.pk 26 (.t 21) (.c (.bool true)) (.t 25)) <|
          .one none (.mv 27 (.t 26)) <|
          .one (some (27, false)) (.mv 30 (.t 8)) <|
          .any [
            .one (some (27, false)) (.ld 28 none (.t 3)) <|
             .one (some (27, false)) (.ld 29 none (.t 4)) <|
             .one (some (27, false)) (.ia 31 1 (.t 29) (.t 30)) <|
             .one (some (27, false)) (.ld 32 none (.t 31)) <|
             .one (some (27, false)) (.ca (some 33) (.t 28) [(false, (.t 32))]) <|
             .one (some (27, false)) (.no 34 .not (.t 33)) <|
             .one none (.pk 35 (.t 27) (.c (.bool true)) (.t 34)) <|
             .one none (.tk 13 (.t 35)) <|
             .nil,
            .one (some (27, false)) (.ld 29 none (.t 4)) <|
             .one (some (27, false)) (.ia 31 1 (.t 29) (.t 30)) <|
             .any [
               .one (some (27, false)) (.ld 28 none (.t 3)) <|
                .one (some (27, false)) (.ld 32 none (.t 31)) <|
                .one (some (27, false)) (.ca (some 33) (.t 28) [(false, (.t 32))]) <|
                .one (some (27, false)) (.no 34 .not (.t 33)) <|
                .one none (.pk 35 (.t 27) (.c (.bool true)) (.t 34)) <|
                .one none (.tk 13 (.t 35)) <|
                .nil,
               .one (some (27, false)) (.ld 32 none (.t 31)) <|
                .one (some (27, false)) (.ld 28 none (.t 3)) <|
                .one (some (27, false)) (.ca (some 33) (.t 28) [(false, (.t 32))]) <|
                .one (some (27, false)) (.no 34 .not (.t 33)) <|
                .one none (.pk 35 (.t 27) (.c (.bool true)) (.t 34)) <|
                .one none (.tk 13 (.t 35)) <|
                .nil]],
         .one none (.ld 18 none (.t 17)) <|
          .one none (.ld 14 none (.t 3)) <|
          .one none (.ca (some 19) (.t 14) [(false, (.t 18))]) <|
          .one none (.no 20 .not (.t 19)) <|
          .one none (.mv 21 (.t 20)) <|
          .one (some (21, false)) (.mv 22 (.t 8)) <|
          .one (some (21, false)) (.ld 23 none (.t 4)) <|
          .one (some (21, false)) (.ln 24 false (.t 23)) <|
          .one (some (21, false)) (.bi 25 .eql (.t 22) (.t 24)) <|
          .one none (.pk 26 (.t 21) (.c (.bool true)) (.t 25)) <|
          .one none (.mv 27 (.t 26)) <|
          .one (some (27, false)) (.mv 30 (.t 8)) <|
          .any [
            .one (some (27, false)) (.ld 28 none (.t 3)) <|
             .one (some (27, false)) (.ld 29 none (.t 4)) <|
             .one (some (27, false)) (.ia 31 1 (.t 29) (.t 30)) <|
             .one (some (27, false)) (.ld 32 none (.t 31)) <|
             .one (some (27, false)) (.ca (some 33) (.t 28) [(false, (.t 32))]) <|
             .one (some (27, false)) (.no 34 .not (.t 33)) <|
             .one none (.pk 35 (.t 27) (.c (.bool true)) (.t 34)) <|
             .one none (.tk 13 (.t 35)) <|
             .nil,
            .one (some (27, false)) (.ld 29 none (.t 4)) <|
             .one (some (27, false)) (.ia 31 1 (.t 29) (.t 30)) <|
             .any [
               .one (some (27, false)) (.ld 28 none (.t 3)) <|
                .one (some (27, false)) (.ld 32 none (.t 31)) <|
                .one (some (27, false)) (.ca (some 33) (.t 28) [(false, (.t 32))]) <|
                .one (some (27, false)) (.no 34 .not (.t 33)) <|
                .one none (.pk 35 (.t 27) (.c (.bool true)) (.t 34)) <|
                .one none (.tk 13 (.t 35)) <|
                .nil,
               .one (some (27, false)) (.ld 32 none (.t 31)) <|
                .one (some (27, false)) (.ld 28 none (.t 3)) <|
                .one (some (27, false)) (.ca (some 33) (.t 28) [(false, (.t 32))]) <|
                .one (some (27, false)) (.no 34 .not (.t 33)) <|
                .one none (.pk 35 (.t 27) (.c (.bool true)) (.t 34)) <|
                .one none (.tk 13 (.t 35)) <|
                .nil]]]]) <|
  .cond (.t 13) (.seq (.reg <|
     .one none (.tk 7 (.c (.str [10]))) <|
     .nil) <|
   .ret) <|
  .seq (.reg <|
    .one none (.mv 37 (.t 8)) <|
    .one none (.mv 38 (.t 1)) <|
    .one none (.bi 39 .eql (.t 37) (.t 38)) <|
    .one none (.tk 36 (.t 39)) <|
    .nil) <|
  .cond (.t 36) (.seq (.reg <|
     .one none (.tk 7 (.c (.str [32]))) <|
     .nil) <|
   .ret) <|
  .skip) <|
 .seq (.reg <|
   .one none (.tk 7 (.c (.str []))) <|
   .nil) <|
 .ret⟩
theorem has218 : Has Tryz.prog [] 218 ir218 := has_of Tryz.func218 (by kernel_rfl)
def ir221 : If := ⟨17, [.t 2],
 .seq (.reg <|
   .one none (.tk 2 (.c (.bool false))) <|
   .nil) <|
 .seq (.block 0 <|
  .seq (.reg <|
    .one none (.mv 4 (.t 0)) <|
    .one none (.bi 5 .leq (.c (.int .i32 0)) (.t 4)) <|
    .one none (.mv 6 (.t 5)) <|
    .one (some (6, true)) (.mv 7 (.t 0)) <|
    .one (some (6, true)) (.bi 8 .lss (.t 7) (.c (.int .i32 55296))) <|
    .one none (.pk 9 (.t 6) (.t 8) (.c (.bool false))) <|
    .one none (.tk 3 (.t 9)) <|
    .nil) <|
  .cond (.t 3) (.seq (.reg <|
     .one none (.tk 2 (.c (.bool true))) <|
     .nil) <|
   .ret) <|
  .seq (.reg <|
    .one none (.mv 11 (.t 0)) <|
    .one none (.bi 12 .lss (.c (.int .i32 57343)) (.t 11)) <|
    .one none (.mv 13 (.t 12)) <|
    .one (some (13, true)) (.mv 14 (.t 0)) <|
    .one (some (13, true)) (.bi 15 .leq (.t 14) (.c (.int .i32 1114111))) <|
    .one none (.pk 16 (.t 13) (.t 15) (.c (.bool false))) <|
    .one none (.tk 10 (.t 16)) <|
    .nil) <|
  .cond (.t 10) (.seq (.reg <|
     .one none (.tk 2 (.c (.bool true))) <|
     .nil) <|
   .ret) <|
  .skip) <|
 .seq (.reg <|
   .one none (.tk 2 (.c (.bool false))) <|
   .nil) <|
 .ret⟩
theorem has221 : Has Tryz.prog [] 221 ir221 := has_of Tryz.func221 (by kernel_rfl)
def ir224 : If := ⟨26, [.t 6, .t 7],
 .seq (.reg <|
   .one none (.tk 6 (.c (.int .u64 0))) <|
   .one none (.tk 7 (.c .nili)) <|
   .nil) <|
 .seq (.reg <|
   .one none (.mv 11 (.t 0)) <|
   .one none (.mv 12 (.t 1)) <|
   .one none (.mv 13 (.t 2)) <|
   .one none (.ca (some 14) (.c (.clo 247 [] [])) [(false, (.t 11)), (false, (.t 12)), (false, (.t 13))]) <|
   .one none (.mv 10 (.t 14)) <|
   .one none (.ex 15 (.t 10) 0) <|
   .one none (.ex 16 (.t 10) 1) <|
   .one none (.tk 8 (.t 15)) <|
   .one none (.tk 9 (.t 16)) <|
   .nil) <|
 .seq (.seq (.reg <|
    .one none (.mv 17 (.t 9)) <|
    .one none (.bad (some 18)) <|
    .nil) <|
  .cond (.t 18) (.seq (.reg <|
     .one none (.mv 19 (.t 8)) <|
     .one none (.mv 20 (.t 0)) <|
     .one none (.mv 21 (.t 1)) <|
     .one none (.mv 22 (.t 2)) <|
     .one none (.mv 23 (.t 9)) <|
     .one none (.ca (some 24) (.c (.clo 227 [] [])) [(false, (.c (.str [80, 97, 114, 115, 101, 85, 105, 110, 116]))), (false, (.t 20)), (false, (.t 21)), (false, (.t 22)), (false, (.t 23))]) <|
     .one none (.tk 6 (.t 19)) <|
     .one none (.tk 7 (.t 24)) <|
     .nil) <|
   .ret) <|
  .skip) <|
 .seq (.reg <|
   .one none (.mv 25 (.t 8)) <|
   .one none (.tk 6 (.t 25)) <|
   .one none (.tk 7 (.c .nili)) <|
   .nil) <|
 .ret⟩
theorem has224 : Has Tryz.prog [] 224 ir224 := has_of Tryz.func224 (by kernel_rfl)
def ir225 : If := ⟨30, [.t 4, .t 5],
 .seq (.reg <|
   .one none (.tk 4 (.c (.int .i64 0))) <|
   .one none (.tk 5 (.c .nili)) <|
   .nil) <|
 .seq (.reg <|
   .one none (.mv 7 (.t 0)) <|
   .one none (.ca (some 8) (.c (.clo 179 [] [])) [(false, (.t 7))]) <|
   .nil) <|
 .seq (.reg <|
   .one none (.mv 9 (.t 0)) <|
   .one none (.nc 10 (.t 9)) <|
   .one none (.fa 11 1 (.t 10)) <|
   .one none (.ld 12 none (.t 11)) <|
   .one none (.ln 13 false (.t 12)) <|
   .one none (.tk 6 (.t 13)) <|
   .nil) <|
 .seq (.reg <|
   .one none (.mv 14 (.t 0)) <|
   .one none (.mv 15 (.t 0)) <|
   .one none (.nc 16 (.t 15)) <|
   .one none (.fa 17 1 (.t 16)) <|
   .one none (.ld 18 none (.t 17)) <|
   .one none (.mv 19 (.t 1)) <|
   .one none (.ca (some 20) (.c (.clo 248 [] [])) [(false, (.t 18)), (false, (.t 19))]) <|
   .one none (.nc 21 (.t 14)) <|
   .one none (.fa 22 1 (.t 21)) <|
   .one none (.st 1 (.t 22) (.t 20)) <|
   .nil) <|
 .seq (.reg <|
   .one none (.mv 23 (.t 0)) <|
   .one none (.nc 24 (.t 23)) <|
   .one none (.fa 25 1 (.t 24)) <|
   .one none (.ld 26 none (.t 25)) <|
   .one none (.ln 27 false (.t 26)) <|
   .one none (.mv 28 (.t 6)) <|
   .one none (.bi 29 .sub (.t 27) (.t 28)) <|
   .one none (.tk 4 (.t 29)) <|
   .one none (.tk 5 (.c .nili)) <|
   .nil) <|
 .ret⟩
theorem has225 : Has Tryz.prog [] 225 ir225 := has_of Tryz.func225 (by kernel_rfl)
def ir229 : If := ⟨2, [.t 0],
 .seq (.reg <|
   .one none (.tk 0 (.c (.sl true []))) <|
   .nil) <|
 .seq (.reg <|
   .one none (.bs 1 9 1 [(.c (.str [110, 117, 108, 108])), (.c (.str [98, 111, 111, 108])), (.c (.str [105, 110, 116])), (.c (.str [115, 116, 114])), (.c (.str [115, 101, 113])), (.c (.str [109, 97, 112]))]) <|
   .one none (.tk 0 (.t 1)) <|
   .nil) <|
 .ret⟩
theorem has229 : Has Tryz.prog [] 229 ir229 := has_of Tryz.func229 (by kernel_rfl)
def ir230 : If := ⟨32, [.t 4],
 .seq (.reg <|
   .one none (.tk 4 (.c (.str []))) <|
   .nil) <|
 .seq (.seq (.reg <|
    .one none (.mv 10 (.t 0)) <|
    .one none (.bad (some 11)) <|
    .nil) <|
  .block 0 <|
  .loop <|
  .seq (.reg <|
    .one none (.bad (some 12)) <|
    .one none (.ex 13 (.t 12) 0) <|
    .nil) <|
  .seq (.cond (.t 13) (.skip) <|
   .exit 0) <|
  .block 1 <|
  .seq (.reg <|
    .one none (.ex 14 (.t 12) 1) <|
    .one none (.ex 15 (.t 12) 2) <|
    .one none (.tk 5 (.t 14)) <|
    .one none (.tk 6 (.t 15)) <|
    .nil) <|
  .seq (.reg <|
    .one none (.tk 7 (.c (.bool false))) <|
    .nil) <|
  .seq (.seq (.reg <|
     .one none (.mv 16 (.t 1)) <|
     .one none (.bad (some 17)) <|
     .nil) <|
   .block 2 <|
   .loop <|
   .seq (.reg <|
     .one none (.bad (some 18)) <|
     .one none (.ex 19 (.t 18) 0) <|
     .nil) <|
   .seq (.cond (.t 19) (.skip) <|
    .exit 2) <|
   .block 3 <|
   .seq (.reg <|
     .one none (.ex 20 (.t 18) 2) <|
     .one none (.tk 9 (.t 20)) <|
     .nil) <|
   .reg <|
    .one none (.mv 21 (.t 7)) <|
    .one none (.mv 22 (.t 21)) <|
    .one (some (22, false)) (.mv 23 (.t 6)) <|
    .one (some (22, false)) (.mv 24 (.t 9)) <|
    .one (some (22, false)) (.bi 25 .eql (.t 23) (.t 24)) <|
    .one none (.pk 26 (.t 22) (.c (.bool true)) (.t 25)) <|
    .one none (.tk 7 (.t 26)) <|
    .nil) <|
  .seq (.reg <|
    .one none (.mv 27 (.t 7)) <|
    .one none (.no 28 .not (.t 27)) <|
    .nil) <|
  .cond (.t 28) (.seq (.reg <|
     .one none (.mv 29 (.t 0)) <|
     .one none (.mv 30 (.t 5)) <|
     .one none (.sc 31 0 (.t 29) (some (.t 30)) none none) <|
     .one none (.tk 4 (.t 31)) <|
     .nil) <|
   .ret) <|
  .skip) <|
 .seq (.reg <|
   .one none (.tk 4 (.c (.str []))) <|
   .nil) <|
 .ret⟩
theorem has230 : Has Tryz.prog [] 230 ir230 := has_of Tryz.func230 (by kernel_rfl)
end Gx

/- Part K1. -/
/- Go's strings: what each small function gives. -/
set_option linter.unusedSimpArgs false
set_option linter.unusedVariables false
namespace Gx
open Go Go.Proofs
variable {G : Nat → Option Obj}

theorem isPrefixOf_take (p s : List UInt8) : p.isPrefixOf s = decide (p.length ≤ s.length ∧ s.take p.length = p) := by
  rw [Bool.eq_iff_iff]
  simp only [List.isPrefixOf_iff_prefix, decide_eq_true_eq, List.prefix_iff_eq_take]
  constructor
  · intro h
    have := congrArg List.length h
    simp only [List.length_take] at this
    exact ⟨by omega, h.symm⟩
  · exact fun h => h.2.symm
theorem isSuffixOf_drop (p s : List UInt8) : p.isSuffixOf s = decide (p.length ≤ s.length ∧ s.drop (s.length - p.length) = p) := by
  rw [Bool.eq_iff_iff]
  simp only [List.isSuffixOf_iff_suffix, decide_eq_true_eq, List.suffix_iff_eq_drop]
  constructor
  · intro h
    have := congrArg List.length h
    simp only [List.length_drop] at this
    by_cases hl : p.length ≤ s.length
    · exact ⟨hl, h.symm⟩
    · have h0 : s.length - p.length = 0 := by omega
      rw [h0] at h; simp at h; subst h; simp at hl
  · exact fun h => h.2.symm

theorem k118 (σ : St) (s p : List UInt8) : ARet Tryz.prog G 118 [.str s, .str p] σ (.bool (p.isPrefixOf s)) σ := by
  refine ret_of has118 (Nat.le_of_ble_eq_true rfl) ?_
  simp only [ir118]
  rw [isPrefixOf_take]
  repeat' (first | simp (maxSteps := 1000000) (disch := omega) only [rb0, rb1, rb2, rb3, rb4, rb5, Od.ev, Ao.dst, Nat.reduceEqDiff, ↓reduceIte, reduceIte, reduceCtorEq, Nat.reduceAdd, Nat.reduceLeDiff, Nat.reduceSub, Int.reduceToNat, byt, Nat.reduceBEq] | with_reducible refine lw_of (fun _ => ?_) | with_reducible exact True.intro | with_reducible refine fin_same ?_ | with_reducible refine fin_loc ?_ ?_ ?_ | with_reducible exact Loc.refl _ | with_reducible refine Loc.push ?_ _ _ | with_reducible refine Loc.set ?_ _ _ (by first | omega | (simp only [push_n, set_n]; omega)) | with_reducible refine And.intro (by omega) ?_)
  by_cases h : p.length ≤ s.length <;> repeat' (first | simp (maxSteps := 1000000) (disch := omega) only [rb0, rb1, rb2, rb3, rb4, rb5, Od.ev, Ao.dst, Nat.reduceEqDiff, ↓reduceIte, reduceIte, reduceCtorEq, Nat.reduceAdd, Nat.reduceLeDiff, Nat.reduceSub, Int.reduceToNat, byt, Nat.reduceBEq, h] | with_reducible refine lw_of (fun _ => ?_) | with_reducible exact True.intro | with_reducible refine fin_same ?_ | with_reducible refine fin_loc ?_ ?_ ?_ | with_reducible exact Loc.refl _ | with_reducible refine Loc.push ?_ _ _ | with_reducible refine Loc.set ?_ _ _ (by first | omega | (simp only [push_n, set_n]; omega)) | with_reducible refine And.intro (by omega) ?_)
theorem k66 (σ : St) (s p : List UInt8) : ARet Tryz.prog G 66 [.str s, .str p] σ (.bool (p.isPrefixOf s)) σ := by
  refine ret_of has66 (Nat.le_of_ble_eq_true rfl) ?_
  simp only [ir66]
  repeat' (first | simp (maxSteps := 1000000) (disch := omega) only [rb0, rb1, rb2, rb3, rb4, rb5, Od.ev, Ao.dst, Nat.reduceEqDiff, ↓reduceIte, reduceIte, reduceCtorEq, Nat.reduceAdd, Nat.reduceLeDiff, Nat.reduceSub, Int.reduceToNat, byt, Nat.reduceBEq] | with_reducible refine lw_of (fun _ => ?_) | with_reducible exact True.intro | with_reducible refine fin_same ?_ | with_reducible refine fin_loc ?_ ?_ ?_ | with_reducible exact Loc.refl _ | with_reducible refine Loc.push ?_ _ _ | with_reducible refine Loc.set ?_ _ _ (by first | omega | (simp only [push_n, set_n]; omega)) | with_reducible refine And.intro (by omega) ?_ | with_reducible refine cw_of (k118 _ _ _) ?_)
theorem k86 (σ : St) (s p : List UInt8) : ARet Tryz.prog G 86 [.str s, .str p] σ (.tup [.str (if p.isPrefixOf s then s.drop p.length else s), .bool (p.isPrefixOf s)]) σ := by
  refine ret_of has86 (Nat.le_of_ble_eq_true rfl) ?_
  simp only [ir86]
  have hp := isPrefixOf_take p s
  repeat' (first | simp (maxSteps := 1000000) (disch := omega) only [rb0, rb1, rb2, rb3, rb4, rb5, Od.ev, Ao.dst, Nat.reduceEqDiff, ↓reduceIte, reduceIte, reduceCtorEq, Nat.reduceAdd, Nat.reduceLeDiff, Nat.reduceSub, Int.reduceToNat, byt, Nat.reduceBEq] | with_reducible refine lw_of (fun _ => ?_) | with_reducible exact True.intro | with_reducible refine fin_same ?_ | with_reducible refine fin_loc ?_ ?_ ?_ | with_reducible exact Loc.refl _ | with_reducible refine Loc.push ?_ _ _ | with_reducible refine Loc.set ?_ _ _ (by first | omega | (simp only [push_n, set_n]; omega)) | with_reducible refine And.intro (by omega) ?_ | with_reducible refine cw_of (k118 _ _ _) ?_)
  refine bw_split (fun h => ?_) (fun h => ?_)
  · have h' : p.isPrefixOf s = false := by simpa using h
    repeat' (first | simp (maxSteps := 1000000) (disch := omega) only [rb0, rb1, rb2, rb3, rb4, rb5, Od.ev, Ao.dst, Nat.reduceEqDiff, ↓reduceIte, reduceIte, reduceCtorEq, Nat.reduceAdd, Nat.reduceLeDiff, Nat.reduceSub, Int.reduceToNat, byt, Nat.reduceBEq, h', Bool.false_eq_true] | with_reducible refine lw_of (fun _ => ?_) | with_reducible exact True.intro | with_reducible refine fin_same ?_ | with_reducible refine fin_loc ?_ ?_ ?_ | with_reducible exact Loc.refl _ | with_reducible refine Loc.push ?_ _ _ | with_reducible refine Loc.set ?_ _ _ (by first | omega | (simp only [push_n, set_n]; omega)) | with_reducible refine And.intro (by omega) ?_)
  · have h' : p.isPrefixOf s = true := by simpa using h
    rw [h', eq_comm, decide_eq_true_eq] at hp
    have := hp.1
    repeat' (first | simp (maxSteps := 1000000) (disch := omega) only [rb0, rb1, rb2, rb3, rb4, rb5, Od.ev, Ao.dst, Nat.reduceEqDiff, ↓reduceIte, reduceIte, reduceCtorEq, Nat.reduceAdd, Nat.reduceLeDiff, Nat.reduceSub, Int.reduceToNat, byt, Nat.reduceBEq, h'] | with_reducible refine lw_of (fun _ => ?_) | with_reducible exact True.intro | with_reducible refine fin_same ?_ | with_reducible refine fin_loc ?_ ?_ ?_ | with_reducible exact Loc.refl _ | with_reducible refine Loc.push ?_ _ _ | with_reducible refine Loc.set ?_ _ _ (by first | omega | (simp only [push_n, set_n]; omega)) | with_reducible refine And.intro (by omega) ?_)
theorem k46 (σ : St) (s p : List UInt8) : ARet Tryz.prog G 46 [.str s, .str p] σ (.tup [.str (if p.isPrefixOf s then s.drop p.length else s), .bool (p.isPrefixOf s)]) σ := by
  refine ret_of has46 (Nat.le_of_ble_eq_true rfl) ?_
  simp only [ir46]
  repeat' (first | simp (maxSteps := 1000000) (disch := omega) only [rb0, rb1, rb2, rb3, rb4, rb5, Od.ev, Ao.dst, Nat.reduceEqDiff, ↓reduceIte, reduceIte, reduceCtorEq, Nat.reduceAdd, Nat.reduceLeDiff, Nat.reduceSub, Int.reduceToNat, byt, Nat.reduceBEq] | with_reducible refine lw_of (fun _ => ?_) | with_reducible exact True.intro | with_reducible refine fin_same ?_ | with_reducible refine fin_loc ?_ ?_ ?_ | with_reducible exact Loc.refl _ | with_reducible refine Loc.push ?_ _ _ | with_reducible refine Loc.set ?_ _ _ (by first | omega | (simp only [push_n, set_n]; omega)) | with_reducible refine And.intro (by omega) ?_ | with_reducible refine cw_of (k86 _ _ _) ?_)
theorem k205 (σ : St) (s p : List UInt8) : ARet Tryz.prog G 205 [.str s, .str p] σ (.bool (p.isSuffixOf s)) σ := by
  refine ret_of has205 (Nat.le_of_ble_eq_true rfl) ?_
  simp only [ir205]
  rw [isSuffixOf_drop]
  repeat' (first | simp (maxSteps := 1000000) (disch := omega) only [rb0, rb1, rb2, rb3, rb4, rb5, Od.ev, Ao.dst, Nat.reduceEqDiff, ↓reduceIte, reduceIte, reduceCtorEq, Nat.reduceAdd, Nat.reduceLeDiff, Nat.reduceSub, Int.reduceToNat, byt, Nat.reduceBEq] | with_reducible refine lw_of (fun _ => ?_) | with_reducible exact True.intro | with_reducible refine fin_same ?_ | with_reducible refine fin_loc ?_ ?_ ?_ | with_reducible exact Loc.refl _ | with_reducible refine Loc.push ?_ _ _ | with_reducible refine Loc.set ?_ _ _ (by first | omega | (simp only [push_n, set_n]; omega)) | with_reducible refine And.intro (by omega) ?_)
  by_cases h : p.length ≤ s.length <;> repeat' (first | simp (maxSteps := 1000000) (disch := omega) only [rb0, rb1, rb2, rb3, rb4, rb5, Od.ev, Ao.dst, Nat.reduceEqDiff, ↓reduceIte, reduceIte, reduceCtorEq, Nat.reduceAdd, Nat.reduceLeDiff, Nat.reduceSub, Int.reduceToNat, byt, Nat.reduceBEq, h] | with_reducible refine lw_of (fun _ => ?_) | with_reducible exact True.intro | with_reducible refine fin_same ?_ | with_reducible refine fin_loc ?_ ?_ ?_ | with_reducible exact Loc.refl _ | with_reducible refine Loc.push ?_ _ _ | with_reducible refine Loc.set ?_ _ _ (by first | omega | (simp only [push_n, set_n]; omega)) | with_reducible refine And.intro (by omega) ?_)
theorem k163 (σ : St) (s p : List UInt8) : ARet Tryz.prog G 163 [.str s, .str p] σ (.tup [.str (if p.isSuffixOf s then s.take (s.length - p.length) else s), .bool (p.isSuffixOf s)]) σ := by
  refine ret_of has163 (Nat.le_of_ble_eq_true rfl) ?_
  simp only [ir163]
  have hp := isSuffixOf_drop p s
  repeat' (first | simp (maxSteps := 1000000) (disch := omega) only [rb0, rb1, rb2, rb3, rb4, rb5, Od.ev, Ao.dst, Nat.reduceEqDiff, ↓reduceIte, reduceIte, reduceCtorEq, Nat.reduceAdd, Nat.reduceLeDiff, Nat.reduceSub, Int.reduceToNat, byt, Nat.reduceBEq] | with_reducible refine lw_of (fun _ => ?_) | with_reducible exact True.intro | with_reducible refine fin_same ?_ | with_reducible refine fin_loc ?_ ?_ ?_ | with_reducible exact Loc.refl _ | with_reducible refine Loc.push ?_ _ _ | with_reducible refine Loc.set ?_ _ _ (by first | omega | (simp only [push_n, set_n]; omega)) | with_reducible refine And.intro (by omega) ?_ | with_reducible refine cw_of (k205 _ _ _) ?_)
  refine bw_split (fun h => ?_) (fun h => ?_)
  · have h' : p.isSuffixOf s = false := by simpa using h
    repeat' (first | simp (maxSteps := 1000000) (disch := omega) only [rb0, rb1, rb2, rb3, rb4, rb5, Od.ev, Ao.dst, Nat.reduceEqDiff, ↓reduceIte, reduceIte, reduceCtorEq, Nat.reduceAdd, Nat.reduceLeDiff, Nat.reduceSub, Int.reduceToNat, byt, Nat.reduceBEq, h', Bool.false_eq_true] | with_reducible refine lw_of (fun _ => ?_) | with_reducible exact True.intro | with_reducible refine fin_same ?_ | with_reducible refine fin_loc ?_ ?_ ?_ | with_reducible exact Loc.refl _ | with_reducible refine Loc.push ?_ _ _ | with_reducible refine Loc.set ?_ _ _ (by first | omega | (simp only [push_n, set_n]; omega)) | with_reducible refine And.intro (by omega) ?_)
  · have h' : p.isSuffixOf s = true := by simpa using h
    rw [h', eq_comm, decide_eq_true_eq] at hp
    have := hp.1
    repeat' (first | simp (maxSteps := 1000000) (disch := omega) only [rb0, rb1, rb2, rb3, rb4, rb5, Od.ev, Ao.dst, Nat.reduceEqDiff, ↓reduceIte, reduceIte, reduceCtorEq, Nat.reduceAdd, Nat.reduceLeDiff, Nat.reduceSub, Int.reduceToNat, byt, Nat.reduceBEq, h'] | with_reducible refine lw_of (fun _ => ?_) | with_reducible exact True.intro | with_reducible refine fin_same ?_ | with_reducible refine fin_loc ?_ ?_ ?_ | with_reducible exact Loc.refl _ | with_reducible refine Loc.push ?_ _ _ | with_reducible refine Loc.set ?_ _ _ (by first | omega | (simp only [push_n, set_n]; omega)) | with_reducible refine And.intro (by omega) ?_)
theorem k109 (σ : St) (s p : List UInt8) : ARet Tryz.prog G 109 [.str s, .str p] σ (.tup [.str (if p.isSuffixOf s then s.take (s.length - p.length) else s), .bool (p.isSuffixOf s)]) σ := by
  refine ret_of has109 (Nat.le_of_ble_eq_true rfl) ?_
  simp only [ir109]
  repeat' (first | simp (maxSteps := 1000000) (disch := omega) only [rb0, rb1, rb2, rb3, rb4, rb5, Od.ev, Ao.dst, Nat.reduceEqDiff, ↓reduceIte, reduceIte, reduceCtorEq, Nat.reduceAdd, Nat.reduceLeDiff, Nat.reduceSub, Int.reduceToNat, byt, Nat.reduceBEq] | with_reducible refine lw_of (fun _ => ?_) | with_reducible exact True.intro | with_reducible refine fin_same ?_ | with_reducible refine fin_loc ?_ ?_ ?_ | with_reducible exact Loc.refl _ | with_reducible refine Loc.push ?_ _ _ | with_reducible refine Loc.set ?_ _ _ (by first | omega | (simp only [push_n, set_n]; omega)) | with_reducible refine And.intro (by omega) ?_ | with_reducible refine cw_of (k163 _ _ _) ?_)
theorem k164 (σ : St) (s p : List UInt8) : ARet Tryz.prog G 164 [.str s, .str p] σ (.str (if p.isSuffixOf s then s.take (s.length - p.length) else s)) σ := by
  refine ret_of has164 (Nat.le_of_ble_eq_true rfl) ?_
  simp only [ir164]
  have hp := isSuffixOf_drop p s
  repeat' (first | simp (maxSteps := 1000000) (disch := omega) only [rb0, rb1, rb2, rb3, rb4, rb5, Od.ev, Ao.dst, Nat.reduceEqDiff, ↓reduceIte, reduceIte, reduceCtorEq, Nat.reduceAdd, Nat.reduceLeDiff, Nat.reduceSub, Int.reduceToNat, byt, Nat.reduceBEq] | with_reducible refine lw_of (fun _ => ?_) | with_reducible exact True.intro | with_reducible refine fin_same ?_ | with_reducible refine fin_loc ?_ ?_ ?_ | with_reducible exact Loc.refl _ | with_reducible refine Loc.push ?_ _ _ | with_reducible refine Loc.set ?_ _ _ (by first | omega | (simp only [push_n, set_n]; omega)) | with_reducible refine And.intro (by omega) ?_ | with_reducible refine cw_of (k205 _ _ _) ?_)
  refine bw_split (fun h => ?_) (fun h => ?_)
  · rw [h, eq_comm, decide_eq_true_eq] at hp
    have := hp.1
    repeat' (first | simp (maxSteps := 1000000) (disch := omega) only [rb0, rb1, rb2, rb3, rb4, rb5, Od.ev, Ao.dst, Nat.reduceEqDiff, ↓reduceIte, reduceIte, reduceCtorEq, Nat.reduceAdd, Nat.reduceLeDiff, Nat.reduceSub, Int.reduceToNat, byt, Nat.reduceBEq, h] | with_reducible refine lw_of (fun _ => ?_) | with_reducible exact True.intro | with_reducible refine fin_same ?_ | with_reducible refine fin_loc ?_ ?_ ?_ | with_reducible exact Loc.refl _ | with_reducible refine Loc.push ?_ _ _ | with_reducible refine Loc.set ?_ _ _ (by first | omega | (simp only [push_n, set_n]; omega)) | with_reducible refine And.intro (by omega) ?_)
  · repeat' (first | simp (maxSteps := 1000000) (disch := omega) only [rb0, rb1, rb2, rb3, rb4, rb5, Od.ev, Ao.dst, Nat.reduceEqDiff, ↓reduceIte, reduceIte, reduceCtorEq, Nat.reduceAdd, Nat.reduceLeDiff, Nat.reduceSub, Int.reduceToNat, byt, Nat.reduceBEq, h, Bool.false_eq_true] | with_reducible refine lw_of (fun _ => ?_) | with_reducible exact True.intro | with_reducible refine fin_same ?_ | with_reducible refine fin_loc ?_ ?_ ?_ | with_reducible exact Loc.refl _ | with_reducible refine Loc.push ?_ _ _ | with_reducible refine Loc.set ?_ _ _ (by first | omega | (simp only [push_n, set_n]; omega)) | with_reducible refine And.intro (by omega) ?_)
theorem k110 (σ : St) (s p : List UInt8) : ARet Tryz.prog G 110 [.str s, .str p] σ (.str (if p.isSuffixOf s then s.take (s.length - p.length) else s)) σ := by
  refine ret_of has110 (Nat.le_of_ble_eq_true rfl) ?_
  simp only [ir110]
  repeat' (first | simp (maxSteps := 1000000) (disch := omega) only [rb0, rb1, rb2, rb3, rb4, rb5, Od.ev, Ao.dst, Nat.reduceEqDiff, ↓reduceIte, reduceIte, reduceCtorEq, Nat.reduceAdd, Nat.reduceLeDiff, Nat.reduceSub, Int.reduceToNat, byt, Nat.reduceBEq] | with_reducible refine lw_of (fun _ => ?_) | with_reducible exact True.intro | with_reducible refine fin_same ?_ | with_reducible refine fin_loc ?_ ?_ ?_ | with_reducible exact Loc.refl _ | with_reducible refine Loc.push ?_ _ _ | with_reducible refine Loc.set ?_ _ _ (by first | omega | (simp only [push_n, set_n]; omega)) | with_reducible refine And.intro (by omega) ?_ | with_reducible refine cw_of (k164 _ _ _) ?_)

/-- A text without what stands at its end. -/
def trimR (f : UInt8 → Bool) (s : List UInt8) : List UInt8 := (s.reverse.dropWhile f).reverse
theorem trimR_snoc (f : UInt8 → Bool) (s : List UInt8) (c : UInt8) : trimR f (s ++ [c]) = if f c then trimR f s else s ++ [c] := by
  unfold trimR
  simp only [List.reverse_append, List.reverse_cons, List.reverse_nil, List.nil_append, List.cons_append, List.dropWhile_cons]
  split <;> simp

theorem u8eq (a b : UInt8) : ((a.toNat : Int) = (b.toNat : Int)) = (a = b) := by
  rw [eq_iff_iff]
  constructor
  · intro h; exact UInt8.toNat_inj.1 (by omega)
  · intro h; rw [h]

theorem k87 (σ : St) (s : List UInt8) (c : UInt8) : ARet Tryz.prog G 87 [.str s, .int .u8 c.toNat] σ (.str (s.dropWhile (· == c))) σ := by
  refine ret_of has87 (Nat.le_of_ble_eq_true rfl) ?_
  simp only [ir87]
  repeat' (first | simp (maxSteps := 1000000) (disch := omega) only [rb0, rb1, rb2, rb3, rb4, rb5, Od.ev, Ao.dst, Nat.reduceEqDiff, ↓reduceIte, reduceIte, reduceCtorEq, Nat.reduceAdd, Nat.reduceLeDiff, Nat.reduceSub, Int.reduceToNat, byt, Nat.reduceBEq] | with_reducible refine lw_of (fun _ => ?_) | with_reducible exact True.intro | with_reducible refine fin_same ?_ | with_reducible refine fin_loc ?_ ?_ ?_ | with_reducible exact Loc.refl _ | with_reducible refine Loc.push ?_ _ _ | with_reducible refine Loc.set ?_ _ _ (by first | omega | (simp only [push_n, set_n]; omega)) | with_reducible refine And.intro (by omega) ?_)
  refine loop_rule (fun n ρ σ' => σ' = σ ∧ ∃ s', n = s'.length ∧ ρ 0 = .str s' ∧ ρ 1 = .int .u8 c.toNat ∧ s'.dropWhile (· == c) = s.dropWhile (· == c)) (fun n ρ σ' hI => ?_) ⟨rfl, s, rfl, rfl, rfl, rfl⟩
  obtain ⟨rfl, s', rfl, h0, h1, h2⟩ := hI
  cases s' with
  | nil =>
    repeat' (first | simp (maxSteps := 1000000) (disch := omega) only [rb0, rb1, rb2, rb3, rb4, rb5, Od.ev, Ao.dst, Nat.reduceEqDiff, ↓reduceIte, reduceIte, reduceCtorEq, Nat.reduceAdd, Nat.reduceLeDiff, Nat.reduceSub, Int.reduceToNat, byt, Nat.reduceBEq, h0, h1] | with_reducible refine lw_of (fun _ => ?_) | with_reducible exact True.intro | with_reducible refine fin_same ?_ | with_reducible refine fin_loc ?_ ?_ ?_ | with_reducible exact Loc.refl _ | with_reducible refine Loc.push ?_ _ _ | with_reducible refine Loc.set ?_ _ _ (by first | omega | (simp only [push_n, set_n]; omega)) | with_reducible refine And.intro (by omega) ?_)
    simpa using h2
  | cons d t =>
    by_cases hd : d = c
    · repeat' (first | simp (maxSteps := 1000000) (disch := omega) only [rb0, rb1, rb2, rb3, rb4, rb5, Od.ev, Ao.dst, Nat.reduceEqDiff, ↓reduceIte, reduceIte, reduceCtorEq, Nat.reduceAdd, Nat.reduceLeDiff, Nat.reduceSub, Int.reduceToNat, byt, Nat.reduceBEq, h0, h1, hd, u8eq] | with_reducible refine lw_of (fun _ => ?_) | with_reducible exact True.intro | with_reducible refine fin_same ?_ | with_reducible refine fin_loc ?_ ?_ ?_ | with_reducible exact Loc.refl _ | with_reducible refine Loc.push ?_ _ _ | with_reducible refine Loc.set ?_ _ _ (by first | omega | (simp only [push_n, set_n]; omega)) | with_reducible refine And.intro (by omega) ?_)
      refine ⟨t.length, by omega, t, rfl, rfl, ?_⟩
      rw [← h2, hd]; simp
    · repeat' (first | simp (maxSteps := 1000000) (disch := omega) only [rb0, rb1, rb2, rb3, rb4, rb5, Od.ev, Ao.dst, Nat.reduceEqDiff, ↓reduceIte, reduceIte, reduceCtorEq, Nat.reduceAdd, Nat.reduceLeDiff, Nat.reduceSub, Int.reduceToNat, byt, Nat.reduceBEq, h0, h1, hd, u8eq] | with_reducible refine lw_of (fun _ => ?_) | with_reducible exact True.intro | with_reducible refine fin_same ?_ | with_reducible refine fin_loc ?_ ?_ ?_ | with_reducible exact Loc.refl _ | with_reducible refine Loc.push ?_ _ _ | with_reducible refine Loc.set ?_ _ _ (by first | omega | (simp only [push_n, set_n]; omega)) | with_reducible refine And.intro (by omega) ?_)
      rw [← h2]; simp [hd]

theorem lastAt (t : List UInt8) (d : UInt8) (k : Nat) (h : k = t.length) : (t ++ [d])[k]? = some d := by subst h; simp

theorem k115 (σ : St) (s : List UInt8) (c : UInt8) : ARet Tryz.prog G 115 [.str s, .int .u8 c.toNat] σ (.str (trimR (· == c) s)) σ := by
  refine ret_of has115 (Nat.le_of_ble_eq_true rfl) ?_
  simp only [ir115]
  repeat' (first | simp (maxSteps := 1000000) (disch := omega) only [rb0, rb1, rb2, rb3, rb4, rb5, Od.ev, Ao.dst, Nat.reduceEqDiff, ↓reduceIte, reduceIte, reduceCtorEq, Nat.reduceAdd, Nat.reduceLeDiff, Nat.reduceSub, Int.reduceToNat, byt, Nat.reduceBEq] | with_reducible refine lw_of (fun _ => ?_) | with_reducible exact True.intro | with_reducible refine fin_same ?_ | with_reducible refine fin_loc ?_ ?_ ?_ | with_reducible exact Loc.refl _ | with_reducible refine Loc.push ?_ _ _ | with_reducible refine Loc.set ?_ _ _ (by first | omega | (simp only [push_n, set_n]; omega)) | with_reducible refine And.intro (by omega) ?_)
  refine loop_rule (fun n ρ σ' => σ' = σ ∧ ∃ s', n = s'.length ∧ ρ 0 = .str s' ∧ ρ 1 = .int .u8 c.toNat ∧ trimR (· == c) s' = trimR (· == c) s) (fun n ρ σ' hI => ?_) ⟨rfl, s, rfl, rfl, rfl, rfl⟩
  obtain ⟨rfl, s', rfl, h0, h1, h2⟩ := hI
  rcases List.eq_nil_or_concat s' with rfl | ⟨t, d, rfl⟩
  · repeat' (first | simp (maxSteps := 1000000) (disch := omega) only [rb0, rb1, rb2, rb3, rb4, rb5, Od.ev, Ao.dst, Nat.reduceEqDiff, ↓reduceIte, reduceIte, reduceCtorEq, Nat.reduceAdd, Nat.reduceLeDiff, Nat.reduceSub, Int.reduceToNat, byt, Nat.reduceBEq, h0, h1] | with_reducible refine lw_of (fun _ => ?_) | with_reducible exact True.intro | with_reducible refine fin_same ?_ | with_reducible refine fin_loc ?_ ?_ ?_ | with_reducible exact Loc.refl _ | with_reducible refine Loc.push ?_ _ _ | with_reducible refine Loc.set ?_ _ _ (by first | omega | (simp only [push_n, set_n]; omega)) | with_reducible refine And.intro (by omega) ?_)
    rw [← h2]; rfl
  · rw [List.concat_eq_append] at h0 h2
    by_cases hd : d = c
    · repeat' (first | simp (maxSteps := 1000000) (disch := omega) only [rb0, rb1, rb2, rb3, rb4, rb5, Od.ev, Ao.dst, Nat.reduceEqDiff, ↓reduceIte, reduceIte, reduceCtorEq, Nat.reduceAdd, Nat.reduceLeDiff, Nat.reduceSub, Int.reduceToNat, byt, Nat.reduceBEq, h0, h1, hd, u8eq, List.length_append, List.concat_eq_append, lastAt, List.take_left'] | with_reducible refine lw_of (fun _ => ?_) | with_reducible exact True.intro | with_reducible refine fin_same ?_ | with_reducible refine fin_loc ?_ ?_ ?_ | with_reducible exact Loc.refl _ | with_reducible refine Loc.push ?_ _ _ | with_reducible refine Loc.set ?_ _ _ (by first | omega | (simp only [push_n, set_n]; omega)) | with_reducible refine And.intro (by omega) ?_)
      refine ⟨t.length, by omega, t, rfl, rfl, ?_⟩
      rw [← h2, trimR_snoc, hd]; simp
    · repeat' (first | simp (maxSteps := 1000000) (disch := omega) only [rb0, rb1, rb2, rb3, rb4, rb5, Od.ev, Ao.dst, Nat.reduceEqDiff, ↓reduceIte, reduceIte, reduceCtorEq, Nat.reduceAdd, Nat.reduceLeDiff, Nat.reduceSub, Int.reduceToNat, byt, Nat.reduceBEq, h0, h1, hd, u8eq, List.length_append, List.concat_eq_append, lastAt] | with_reducible refine lw_of (fun _ => ?_) | with_reducible exact True.intro | with_reducible refine fin_same ?_ | with_reducible refine fin_loc ?_ ?_ ?_ | with_reducible exact Loc.refl _ | with_reducible refine Loc.push ?_ _ _ | with_reducible refine Loc.set ?_ _ _ (by first | omega | (simp only [push_n, set_n]; omega)) | with_reducible refine And.intro (by omega) ?_)
      rw [← h2, trimR_snoc]; simp [hd]
def isOne (p : List UInt8) (c : UInt8) : Prop := p = [c] ∧ c.toNat < 128
theorem k47 (σ : St) (s : List UInt8) (c : UInt8) (hc : c.toNat < 128) : ARet Tryz.prog G 47 [.str s, .str [c]] σ (.str (s.dropWhile (· == c))) σ := by
  refine ret_of has47 (Nat.le_of_ble_eq_true rfl) ?_
  simp only [ir47]
  by_cases h : s = []
  · repeat' (first | simp (maxSteps := 1000000) (disch := omega) only [rb0, rb1, rb2, rb3, rb4, rb5, Od.ev, Ao.dst, Nat.reduceEqDiff, ↓reduceIte, reduceIte, reduceCtorEq, Nat.reduceAdd, Nat.reduceLeDiff, Nat.reduceSub, Int.reduceToNat, byt, Nat.reduceBEq, h, List.dropWhile_nil] | with_reducible refine lw_of (fun _ => ?_) | with_reducible exact True.intro | with_reducible refine fin_same ?_ | with_reducible refine fin_loc ?_ ?_ ?_ | with_reducible exact Loc.refl _ | with_reducible refine Loc.push ?_ _ _ | with_reducible refine Loc.set ?_ _ _ (by first | omega | (simp only [push_n, set_n]; omega)) | with_reducible refine And.intro (by omega) ?_)
  · repeat' (first | simp (maxSteps := 1000000) (disch := omega) only [rb0, rb1, rb2, rb3, rb4, rb5, Od.ev, Ao.dst, Nat.reduceEqDiff, ↓reduceIte, reduceIte, reduceCtorEq, Nat.reduceAdd, Nat.reduceLeDiff, Nat.reduceSub, Int.reduceToNat, byt, Nat.reduceBEq, h] | with_reducible refine lw_of (fun _ => ?_) | with_reducible exact True.intro | with_reducible refine fin_same ?_ | with_reducible refine fin_loc ?_ ?_ ?_ | with_reducible exact Loc.refl _ | with_reducible refine Loc.push ?_ _ _ | with_reducible refine Loc.set ?_ _ _ (by first | omega | (simp only [push_n, set_n]; omega)) | with_reducible refine And.intro (by omega) ?_ | with_reducible refine cw_of (k87 _ _ _) ?_)
theorem k65 (σ : St) (s : List UInt8) (c : UInt8) (hc : c.toNat < 128) : ARet Tryz.prog G 65 [.str s, .str [c]] σ (.str (trimR (· == c) s)) σ := by
  refine ret_of has65 (Nat.le_of_ble_eq_true rfl) ?_
  simp only [ir65]
  by_cases h : s = []
  · repeat' (first | simp (maxSteps := 1000000) (disch := omega) only [rb0, rb1, rb2, rb3, rb4, rb5, Od.ev, Ao.dst, Nat.reduceEqDiff, ↓reduceIte, reduceIte, reduceCtorEq, Nat.reduceAdd, Nat.reduceLeDiff, Nat.reduceSub, Int.reduceToNat, byt, Nat.reduceBEq, h] | with_reducible refine lw_of (fun _ => ?_) | with_reducible exact True.intro | with_reducible refine fin_same ?_ | with_reducible refine fin_loc ?_ ?_ ?_ | with_reducible exact Loc.refl _ | with_reducible refine Loc.push ?_ _ _ | with_reducible refine Loc.set ?_ _ _ (by first | omega | (simp only [push_n, set_n]; omega)) | with_reducible refine And.intro (by omega) ?_)
    rfl
  · repeat' (first | simp (maxSteps := 1000000) (disch := omega) only [rb0, rb1, rb2, rb3, rb4, rb5, Od.ev, Ao.dst, Nat.reduceEqDiff, ↓reduceIte, reduceIte, reduceCtorEq, Nat.reduceAdd, Nat.reduceLeDiff, Nat.reduceSub, Int.reduceToNat, byt, Nat.reduceBEq, h] | with_reducible refine lw_of (fun _ => ?_) | with_reducible exact True.intro | with_reducible refine fin_same ?_ | with_reducible refine fin_loc ?_ ?_ ?_ | with_reducible exact Loc.refl _ | with_reducible refine Loc.push ?_ _ _ | with_reducible refine Loc.set ?_ _ _ (by first | omega | (simp only [push_n, set_n]; omega)) | with_reducible refine And.intro (by omega) ?_ | with_reducible refine cw_of (k115 _ _ _) ?_)
end Gx

/- Part Ir7. -/
open Go Go.Proofs Gx
namespace Gx
def ir247 : If := ⟨172, [.t 6, .t 7],
 .seq (.reg <|
   .one none (.tk 6 (.c (.int .u64 0))) <|
   .one none (.tk 7 (.c .nili)) <|
   .nil) <|
 .seq (.seq (.reg <|
    .one none (.mv 18 (.t 0)) <|
    .one none (.bi 19 .eql (.t 18) (.c (.str []))) <|
    .nil) <|
  .cond (.t 19) (.seq (.reg <|
     .one none (.bad (some 20)) <|
     .one none (.tk 6 (.c (.int .u64 0))) <|
     .one none (.tk 7 (.t 20)) <|
     .nil) <|
   .ret) <|
  .skip) <|
 .seq (.reg <|
   .one none (.mv 21 (.t 1)) <|
   .one none (.bi 22 .eql (.t 21) (.c (.int .i64 0))) <|
   .one none (.tk 8 (.t 22)) <|
   .nil) <|
 .seq (.reg <|
   .one none (.mv 23 (.t 0)) <|
   .one none (.tk 9 (.t 23)) <|
   .nil) <|
 .seq (.block 0 <|
  .seq (.reg <|
    .one none (.mv 26 (.t 1)) <|
    .one none (.bi 27 .leq (.c (.int .i64 2)) (.t 26)) <|
    .one none (.mv 28 (.t 27)) <|
    .one (some (28, true)) (.mv 29 (.t 1)) <|
    .one (some (28, true)) (.bi 30 .leq (.t 29) (.c (.int .i64 36))) <|
    .one none (.pk 31 (.t 28) (.t 30) (.c (.bool false))) <|
    .one none (.tk 25 (.t 31)) <|
    .nil) <|
  .cond (.t 25) (.skip) <|
  .seq (.reg <|
    .one none (.mv 33 (.t 1)) <|
    .one none (.bi 34 .eql (.t 33) (.c (.int .i64 0))) <|
    .one none (.tk 32 (.t 34)) <|
    .nil) <|
  .cond (.t 32) (.seq (.reg <|
     .one none (.tk 1 (.c (.int .i64 10))) <|
     .nil) <|
   .seq (.reg <|
     .one none (.mv 35 (.t 0)) <|
     .one none (.ix 36 (.t 35) (.c (.int .i64 0))) <|
     .one none (.bi 37 .eql (.t 36) (.c (.int .u8 48))) <|
     .nil) <|
   .cond (.t 37) (.block 1 <|
    .seq (.reg <|
      .one none (.mv 41 (.t 0)) <|
      .one none (.ln 42 true (.t 41)) <|
      .one none (.bi 43 .geq (.t 42) (.c (.int .i64 3))) <|
      .one none (.mv 44 (.t 43)) <|
      .one (some (44, true)) (.mv 45 (.t 0)) <|
      .one (some (44, true)) (.ix 46 (.t 45) (.c (.int .i64 1))) <|
      .one (some (44, true)) (.ca (some 47) (.c (.clo 261 [] [])) [(false, (.t 46))]) <|
      .one (some (44, true)) (.bi 48 .eql (.t 47) (.c (.int .u8 98))) <|
      .one none (.pk 49 (.t 44) (.t 48) (.c (.bool false))) <|
      .one none (.tk 40 (.t 49)) <|
      .nil) <|
    .cond (.t 40) (.seq (.reg <|
       .one none (.tk 1 (.c (.int .i64 2))) <|
       .nil) <|
     .reg <|
      .one none (.mv 50 (.t 0)) <|
      .one none (.sc 51 0 (.t 50) (some (.c (.int .i64 2))) none none) <|
      .one none (.tk 0 (.t 51)) <|
      .nil) <|
    .seq (.reg <|
      .one none (.mv 53 (.t 0)) <|
      .one none (.ln 54 true (.t 53)) <|
      .one none (.bi 55 .geq (.t 54) (.c (.int .i64 3))) <|
      .one none (.mv 56 (.t 55)) <|
      .one (some (56, true)) (.mv 57 (.t 0)) <|
      .one (some (56, true)) (.ix 58 (.t 57) (.c (.int .i64 1))) <|
      .one (some (56, true)) (.ca (some 59) (.c (.clo 261 [] [])) [(false, (.t 58))]) <|
      .one (some (56, true)) (.bi 60 .eql (.t 59) (.c (.int .u8 111))) <|
      .one none (.pk 61 (.t 56) (.t 60) (.c (.bool false))) <|
      .one none (.tk 52 (.t 61)) <|
      .nil) <|
    .cond (.t 52) (.seq (.reg <|
       .one none (.tk 1 (.c (.int .i64 8))) <|
       .nil) <|
     .reg <|
      .one none (.mv 62 (.t 0)) <|
      .one none (.sc 63 0 (.t 62) (some (.c (.int .i64 2))) none none) <|
      .one none (.tk 0 (.t 63)) <|
      .nil) <|
    .seq (.reg <|
      .one none (.mv 65 (.t 0)) <|
      .one none (.ln 66 true (.t 65)) <|
      .one none (.bi 67 .geq (.t 66) (.c (.int .i64 3))) <|
      .one none (.mv 68 (.t 67)) <|
      .one (some (68, true)) (.mv 69 (.t 0)) <|
      .one (some (68, true)) (.ix 70 (.t 69) (.c (.int .i64 1))) <|
      .one (some (68, true)) (.ca (some 71) (.c (.clo 261 [] [])) [(false, (.t 70))]) <|
      .one (some (68, true)) (.bi 72 .eql (.t 71) (.c (.int .u8 120))) <|
      .one none (.pk 73 (.t 68) (.t 72) (.c (.bool false))) <|
      .one none (.tk 64 (.t 73)) <|
      .nil) <|
    .cond (.t 64) (.seq (.reg <|
       .one none (.tk 1 (.c (.int .i64 16))) <|
       .nil) <|
     .reg <|
      .one none (.mv 74 (.t 0)) <|
      .one none (.sc 75 0 (.t 74) (some (.c (.int .i64 2))) none none) <|
      .one none (.tk 0 (.t 75)) <|
      .nil) <|
    .seq (.reg <|
      .one none (.tk 1 (.c (.int .i64 8))) <|
      .nil) <|
    .reg <|
     .one none (.mv 38 (.t 0)) <|
     .one none (.sc 39 0 (.t 38) (some (.c (.int .i64 1))) none none) <|
     .one none (.tk 0 (.t 39)) <|
     .nil) <|
   .skip) <|
  .seq (.reg <|
    .one none (.bad (some 24)) <|
    .one none (.tk 6 (.c (.int .u64 0))) <|
    .one none (.tk 7 (.t 24)) <|
    .nil) <|
  .ret) <|
 .seq (.seq (.reg <|
    .one none (.mv 76 (.t 2)) <|
    .one none (.bi 77 .eql (.t 76) (.c (.int .i64 0))) <|
    .nil) <|
  .cond (.t 77) (.reg <|
    .one none (.tk 2 (.c (.int .i64 64))) <|
    .nil) <|
  .seq (.reg <|
    .one none (.mv 78 (.t 2)) <|
    .one none (.bi 79 .lss (.t 78) (.c (.int .i64 0))) <|
    .one none (.mv 80 (.t 79)) <|
    .one (some (80, false)) (.mv 81 (.t 2)) <|
    .one (some (80, false)) (.bi 82 .gtr (.t 81) (.c (.int .i64 64))) <|
    .one none (.pk 83 (.t 80) (.c (.bool true)) (.t 82)) <|
    .nil) <|
  .cond (.t 83) (.seq (.reg <|
     .one none (.bad (some 84)) <|
     .one none (.tk 6 (.c (.int .u64 0))) <|
     .one none (.tk 7 (.t 84)) <|
     .nil) <|
   .ret) <|
  .skip) <|
 .seq (.reg <|
   .one none (.tk 10 (.c (.int .u64 0))) <|
   .nil) <|
 .seq (.seq (.reg <|
    .one none (.mv 85 (.t 1)) <|
    .nil) <|
  .block 2 <|
  .seq (.reg <|
    .one none (.bi 91 .eql (.t 85) (.c (.int .i64 10))) <|
    .one none (.tk 90 (.t 91)) <|
    .nil) <|
  .cond (.t 90) (.reg <|
    .one none (.tk 10 (.c (.int .u64 1844674407370955162))) <|
    .nil) <|
  .seq (.reg <|
    .one none (.bi 93 .eql (.t 85) (.c (.int .i64 16))) <|
    .one none (.tk 92 (.t 93)) <|
    .nil) <|
  .cond (.t 92) (.reg <|
    .one none (.tk 10 (.c (.int .u64 1152921504606846976))) <|
    .nil) <|
  .reg <|
   .one none (.mv 86 (.t 1)) <|
   .one none (.cv 87 (.ints .u64) (.t 86)) <|
   .one none (.bi 88 .quo (.c (.int .u64 18446744073709551615)) (.t 87)) <|
   .one none (.bi 89 .add (.t 88) (.c (.int .u64 1))) <|
   .one none (.tk 10 (.t 89)) <|
   .nil) <|
 .seq (.reg <|
   .one none (.mv 94 (.t 2)) <|
   .one none (.cv 95 (.ints .u64) (.t 94)) <|
   .one none (.bi 96 .shl (.c (.int .u64 1)) (.t 95)) <|
   .one none (.bi 97 .sub (.t 96) (.c (.int .u64 1))) <|
   .one none (.tk 11 (.t 97)) <|
   .nil) <|
 .seq (.reg <|
   .one none (.tk 12 (.c (.bool false))) <|
   .nil) <|
 .seq (.reg <|
   .one none (.tk 13 (.c (.int .u64 0))) <|
   .nil) <|
 .seq (.seq (.reg <|
    .one none (.mv 98 (.t 0)) <|
    .one none (.bad (some 99)) <|
    .one none (.ln 100 false (.t 99)) <|
    .one none (.mv 101 (.c (.int .i64 0))) <|
    .nil) <|
  .block 3 <|
  .loop <|
  .seq (.reg <|
    .one none (.bi 102 .lss (.t 101) (.t 100)) <|
    .nil) <|
  .seq (.cond (.t 102) (.skip) <|
   .exit 3) <|
  .seq (.block 4 <|
   .seq (.reg <|
     .one none (.ia 103 1 (.t 99) (.t 101)) <|
     .one none (.ld 104 none (.t 103)) <|
     .one none (.tk 15 (.t 104)) <|
     .nil) <|
   .seq (.reg <|
     .one none (.tk 16 (.c (.int .u8 0))) <|
     .nil) <|
   .seq (.block 5 <|
    .seq (.reg <|
      .one none (.mv 107 (.t 15)) <|
      .one none (.bi 108 .eql (.t 107) (.c (.int .u8 95))) <|
      .one none (.mv 109 (.t 108)) <|
      .one (some (109, true)) (.mv 110 (.t 8)) <|
      .one none (.pk 111 (.t 109) (.t 110) (.c (.bool false))) <|
      .one none (.tk 106 (.t 111)) <|
      .nil) <|
    .cond (.t 106) (.seq (.reg <|
       .one none (.tk 12 (.c (.bool true))) <|
       .nil) <|
     .exit 4) <|
    .seq (.reg <|
      .one none (.mv 113 (.t 15)) <|
      .one none (.bi 114 .leq (.c (.int .u8 48)) (.t 113)) <|
      .one none (.mv 115 (.t 114)) <|
      .one (some (115, true)) (.mv 116 (.t 15)) <|
      .one (some (115, true)) (.bi 117 .leq (.t 116) (.c (.int .u8 57))) <|
      .one none (.pk 118 (.t 115) (.t 117) (.c (.bool false))) <|
      .one none (.tk 112 (.t 118)) <|
      .nil) <|
    .cond (.t 112) (.reg <|
      .one none (.mv 119 (.t 15)) <|
      .one none (.bi 120 .sub (.t 119) (.c (.int .u8 48))) <|
      .one none (.tk 16 (.t 120)) <|
      .nil) <|
    .seq (.reg <|
      .one none (.mv 122 (.t 15)) <|
      .one none (.ca (some 123) (.c (.clo 261 [] [])) [(false, (.t 122))]) <|
      .one none (.bi 124 .leq (.c (.int .u8 97)) (.t 123)) <|
      .one none (.mv 125 (.t 124)) <|
      .one (some (125, true)) (.mv 126 (.t 15)) <|
      .one (some (125, true)) (.ca (some 127) (.c (.clo 261 [] [])) [(false, (.t 126))]) <|
      .one (some (125, true)) (.bi 128 .leq (.t 127) (.c (.int .u8 122))) <|
      .one none (.pk 129 (.t 125) (.t 128) (.c (.bool false))) <|
      .one none (.tk 121 (.t 129)) <|
      .nil) <|
    .cond (.t 121) (.reg <|
      .one none (.mv 130 (.t 15)) <|
      .one none (.ca (some 131) (.c (.clo 261 [] [])) [(false, (.t 130))]) <|
      .one none (.bi 132 .sub (.t 131) (.c (.int .u8 97))) <|
      .one none (.bi 133 .add (.t 132) (.c (.int .u8 10))) <|
      .one none (.tk 16 (.t 133)) <|
      .nil) <|
    .seq (.reg <|
      .one none (.bad (some 105)) <|
      .one none (.tk 6 (.c (.int .u64 0))) <|
      .one none (.tk 7 (.t 105)) <|
      .nil) <|
    .ret) <|
   .seq (.seq (.reg <|
      .one none (.mv 134 (.t 16)) <|
      .one none (.mv 135 (.t 1)) <|
      .one none (.cv 136 (.ints .u8) (.t 135)) <|
      .one none (.bi 137 .geq (.t 134) (.t 136)) <|
      .nil) <|
    .cond (.t 137) (.seq (.reg <|
       .one none (.bad (some 138)) <|
       .one none (.tk 6 (.c (.int .u64 0))) <|
       .one none (.tk 7 (.t 138)) <|
       .nil) <|
     .ret) <|
    .skip) <|
   .seq (.seq (.reg <|
      .one none (.mv 139 (.t 13)) <|
      .one none (.mv 140 (.t 10)) <|
      .one none (.bi 141 .geq (.t 139) (.t 140)) <|
      .nil) <|
    .cond (.t 141) (.seq (.reg <|
       .one none (.mv 142 (.t 11)) <|
       .one none (.bad (some 143)) <|
       .one none (.tk 6 (.t 142)) <|
       .one none (.tk 7 (.t 143)) <|
       .nil) <|
     .ret) <|
    .skip) <|
   .seq (.reg <|
     .one none (.mv 144 (.t 13)) <|
     .one none (.mv 145 (.t 1)) <|
     .one none (.cv 146 (.ints .u64) (.t 145)) <|
     .one none (.bi 147 .mul (.t 144) (.t 146)) <|
     .one none (.tk 13 (.t 147)) <|
     .nil) <|
   .seq (.reg <|
     .one none (.mv 148 (.t 13)) <|
     .one none (.mv 149 (.t 16)) <|
     .one none (.cv 150 (.ints .u64) (.t 149)) <|
     .one none (.bi 151 .add (.t 148) (.t 150)) <|
     .one none (.tk 17 (.t 151)) <|
     .nil) <|
   .seq (.seq (.reg <|
      .one none (.mv 152 (.t 17)) <|
      .one none (.mv 153 (.t 13)) <|
      .one none (.bi 154 .lss (.t 152) (.t 153)) <|
      .one none (.mv 155 (.t 154)) <|
      .one (some (155, false)) (.mv 156 (.t 17)) <|
      .one (some (155, false)) (.mv 157 (.t 11)) <|
      .one (some (155, false)) (.bi 158 .gtr (.t 156) (.t 157)) <|
      .one none (.pk 159 (.t 155) (.c (.bool true)) (.t 158)) <|
      .nil) <|
    .cond (.t 159) (.seq (.reg <|
       .one none (.mv 160 (.t 11)) <|
       .one none (.bad (some 161)) <|
       .one none (.tk 6 (.t 160)) <|
       .one none (.tk 7 (.t 161)) <|
       .nil) <|
     .ret) <|
    .skip) <|
   .reg <|
    .one none (.mv 162 (.t 17)) <|
    .one none (.tk 13 (.t 162)) <|
    .nil) <|
  .reg <|
   .one none (.bi 163 .add (.t 101) (.c (.int .i64 1))) <|
   .one none (.mv 101 (.t 163)) <|
   .nil) <|
 .seq (.seq (.reg <|
    .one none (.mv 164 (.t 12)) <|
    .one none (.mv 165 (.t 164)) <|
    .one (some (165, true)) (.mv 166 (.t 9)) <|
    .one (some (165, true)) (.ca (some 167) (.c (.clo 262 [] [])) [(false, (.t 166))]) <|
    .one (some (165, true)) (.no 168 .not (.t 167)) <|
    .one none (.pk 169 (.t 165) (.t 168) (.c (.bool false))) <|
    .nil) <|
  .cond (.t 169) (.seq (.reg <|
     .one none (.bad (some 170)) <|
     .one none (.tk 6 (.c (.int .u64 0))) <|
     .one none (.tk 7 (.t 170)) <|
     .nil) <|
   .ret) <|
  .skip) <|
 .seq (.reg <|
   .one none (.mv 171 (.t 13)) <|
   .one none (.tk 6 (.t 171)) <|
   .one none (.tk 7 (.c .nili)) <|
   .nil) <|
 .ret⟩
theorem has247 : Has Tryz.prog [] 247 ir247 := has_of Tryz.func247 (by kernel_rfl)
def ir248 : If := ⟨16, [.t 4],
 .seq (.reg <|
   .one none (.tk 4 (.c (.sl true []))) <|
   .nil) <|
 .seq (.seq (.reg <|
    .one none (.mv 5 (.t 1)) <|
    .one none (.cv 6 (.ints .u32) (.t 5)) <|
    .one none (.bi 7 .leq (.t 6) (.c (.int .u32 127))) <|
    .nil) <|
  .cond (.t 7) (.seq (.reg <|
     .one none (.tk 8 (.t 0)) <|
     .one none (.mv 9 (.t 1)) <|
     .one none (.cv 10 (.ints .u8) (.t 9)) <|
     .one none (.bs 11 5 1 [(.t 10)]) <|
     .one none (.ap 12 5 1 (.t 8) (.t 11)) <|
     .one none (.tk 4 (.t 12)) <|
     .nil) <|
   .ret) <|
  .skip) <|
 .seq (.reg <|
   .one none (.mv 13 (.t 0)) <|
   .one none (.mv 14 (.t 1)) <|
   .one none (.ca (some 15) (.c (.clo 263 [] [])) [(false, (.t 13)), (false, (.t 14))]) <|
   .one none (.tk 4 (.t 15)) <|
   .nil) <|
 .ret⟩
theorem has248 : Has Tryz.prog [] 248 ir248 := has_of Tryz.func248 (by kernel_rfl)
def ir261 : If := ⟨5, [.t 2],
 .seq (.reg <|
   .one none (.tk 2 (.c (.int .u8 0))) <|
   .nil) <|
 .seq (.reg <|
   .one none (.mv 3 (.t 0)) <|
   .one none (.bi 4 .or (.t 3) (.c (.int .u8 32))) <|
   .one none (.tk 2 (.t 4)) <|
   .nil) <|
 .ret⟩
theorem has261 : Has Tryz.prog [] 261 ir261 := has_of Tryz.func261 (by kernel_rfl)
def ir262 : If := ⟨94, [.t 2],
 .seq (.reg <|
   .one none (.tk 2 (.c (.bool false))) <|
   .nil) <|
 .seq (.reg <|
   .one none (.tk 3 (.c (.int .i32 94))) <|
   .nil) <|
 .seq (.reg <|
   .one none (.tk 4 (.c (.int .i64 0))) <|
   .nil) <|
 .seq (.seq (.reg <|
    .one none (.mv 6 (.t 0)) <|
    .one none (.ln 7 true (.t 6)) <|
    .one none (.bi 8 .geq (.t 7) (.c (.int .i64 1))) <|
    .one none (.mv 9 (.t 8)) <|
    .one (some (9, true)) (.mv 10 (.t 0)) <|
    .one (some (9, true)) (.ix 11 (.t 10) (.c (.int .i64 0))) <|
    .one (some (9, true)) (.bi 12 .eql (.t 11) (.c (.int .u8 45))) <|
    .one (some (9, true)) (.mv 13 (.t 12)) <|
    .one (some (13, false)) (.mv 14 (.t 0)) <|
    .one (some (13, false)) (.ix 15 (.t 14) (.c (.int .i64 0))) <|
    .one (some (13, false)) (.bi 16 .eql (.t 15) (.c (.int .u8 43))) <|
    .one (some (9, true)) (.pk 17 (.t 13) (.c (.bool true)) (.t 16)) <|
    .one none (.pk 18 (.t 9) (.t 17) (.c (.bool false))) <|
    .nil) <|
  .cond (.t 18) (.reg <|
    .one none (.mv 19 (.t 0)) <|
    .one none (.sc 20 0 (.t 19) (some (.c (.int .i64 1))) none none) <|
    .one none (.tk 0 (.t 20)) <|
    .nil) <|
  .skip) <|
 .seq (.reg <|
   .one none (.tk 5 (.c (.bool false))) <|
   .nil) <|
 .seq (.seq (.reg <|
    .one none (.mv 21 (.t 0)) <|
    .one none (.ln 22 true (.t 21)) <|
    .one none (.bi 23 .geq (.t 22) (.c (.int .i64 2))) <|
    .one none (.mv 24 (.t 23)) <|
    .one (some (24, true)) (.mv 25 (.t 0)) <|
    .one (some (24, true)) (.ix 26 (.t 25) (.c (.int .i64 0))) <|
    .one (some (24, true)) (.bi 27 .eql (.t 26) (.c (.int .u8 48))) <|
    .one none (.pk 28 (.t 24) (.t 27) (.c (.bool false))) <|
    .one none (.mv 29 (.t 28)) <|
    .one (some (29, true)) (.mv 30 (.t 0)) <|
    .one (some (29, true)) (.ix 31 (.t 30) (.c (.int .i64 1))) <|
    .one (some (29, true)) (.ca (some 32) (.c (.clo 261 [] [])) [(false, (.t 31))]) <|
    .one (some (29, true)) (.bi 33 .eql (.t 32) (.c (.int .u8 98))) <|
    .one (some (29, true)) (.mv 34 (.t 33)) <|
    .one (some (34, false)) (.mv 35 (.t 0)) <|
    .one (some (34, false)) (.ix 36 (.t 35) (.c (.int .i64 1))) <|
    .one (some (34, false)) (.ca (some 37) (.c (.clo 261 [] [])) [(false, (.t 36))]) <|
    .one (some (34, false)) (.bi 38 .eql (.t 37) (.c (.int .u8 111))) <|
    .one (some (29, true)) (.pk 39 (.t 34) (.c (.bool true)) (.t 38)) <|
    .one (some (29, true)) (.mv 40 (.t 39)) <|
    .one (some (40, false)) (.mv 41 (.t 0)) <|
    .one (some (40, false)) (.ix 42 (.t 41) (.c (.int .i64 1))) <|
    .one (some (40, false)) (.ca (some 43) (.c (.clo 261 [] [])) [(false, (.t 42))]) <|
    .one (some (40, false)) (.bi 44 .eql (.t 43) (.c (.int .u8 120))) <|
    .one (some (29, true)) (.pk 45 (.t 40) (.c (.bool true)) (.t 44)) <|
    .one none (.pk 46 (.t 29) (.t 45) (.c (.bool false))) <|
    .nil) <|
  .cond (.t 46) (.seq (.reg <|
     .one none (.tk 4 (.c (.int .i64 2))) <|
     .nil) <|
   .seq (.reg <|
     .one none (.tk 3 (.c (.int .i32 48))) <|
     .nil) <|
   .reg <|
    .one none (.mv 47 (.t 0)) <|
    .one none (.ix 48 (.t 47) (.c (.int .i64 1))) <|
    .one none (.ca (some 49) (.c (.clo 261 [] [])) [(false, (.t 48))]) <|
    .one none (.bi 50 .eql (.t 49) (.c (.int .u8 120))) <|
    .one none (.tk 5 (.t 50)) <|
    .nil) <|
  .skip) <|
 .seq (.block 0 <|
  .loop <|
  .seq (.seq (.reg <|
     .one none (.mv 51 (.t 4)) <|
     .one none (.mv 52 (.t 0)) <|
     .one none (.ln 53 true (.t 52)) <|
     .one none (.bi 54 .lss (.t 51) (.t 53)) <|
     .nil) <|
   .cond (.t 54) (.skip) <|
   .exit 0) <|
  .seq (.block 1 <|
   .seq (.seq (.reg <|
      .one none (.mv 57 (.t 0)) <|
      .one none (.mv 58 (.t 4)) <|
      .one none (.ix 59 (.t 57) (.t 58)) <|
      .one none (.bi 60 .leq (.c (.int .u8 48)) (.t 59)) <|
      .one none (.mv 61 (.t 60)) <|
      .one (some (61, true)) (.mv 62 (.t 0)) <|
      .one (some (61, true)) (.mv 63 (.t 4)) <|
      .one (some (61, true)) (.ix 64 (.t 62) (.t 63)) <|
      .one (some (61, true)) (.bi 65 .leq (.t 64) (.c (.int .u8 57))) <|
      .one none (.pk 66 (.t 61) (.t 65) (.c (.bool false))) <|
      .one none (.mv 67 (.t 66)) <|
      .one (some (67, false)) (.mv 68 (.t 5)) <|
      .one (some (67, false)) (.mv 69 (.t 68)) <|
      .one (some (69, true)) (.mv 70 (.t 0)) <|
      .one (some (69, true)) (.mv 71 (.t 4)) <|
      .one (some (69, true)) (.ix 72 (.t 70) (.t 71)) <|
      .one (some (69, true)) (.ca (some 73) (.c (.clo 261 [] [])) [(false, (.t 72))]) <|
      .one (some (69, true)) (.bi 74 .leq (.c (.int .u8 97)) (.t 73)) <|
      .one (some (67, false)) (.pk 75 (.t 69) (.t 74) (.c (.bool false))) <|
      .one (some (67, false)) (.mv 76 (.t 75)) <|
      .one (some (76, true)) (.mv 77 (.t 0)) <|
      .one (some (76, true)) (.mv 78 (.t 4)) <|
      .one (some (76, true)) (.ix 79 (.t 77) (.t 78)) <|
      .one (some (76, true)) (.ca (some 80) (.c (.clo 261 [] [])) [(false, (.t 79))]) <|
      .one (some (76, true)) (.bi 81 .leq (.t 80) (.c (.int .u8 102))) <|
      .one (some (67, false)) (.pk 82 (.t 76) (.t 81) (.c (.bool false))) <|
      .one none (.pk 83 (.t 67) (.c (.bool true)) (.t 82)) <|
      .nil) <|
    .cond (.t 83) (.seq (.reg <|
       .one none (.tk 3 (.c (.int .i32 48))) <|
       .nil) <|
     .exit 1) <|
    .skip) <|
   .seq (.seq (.reg <|
      .one none (.mv 84 (.t 0)) <|
      .one none (.mv 85 (.t 4)) <|
      .one none (.ix 86 (.t 84) (.t 85)) <|
      .one none (.bi 87 .eql (.t 86) (.c (.int .u8 95))) <|
      .nil) <|
    .cond (.t 87) (.seq (.seq (.reg <|
        .one none (.mv 88 (.t 3)) <|
        .one none (.bi 89 .neq (.t 88) (.c (.int .i32 48))) <|
        .nil) <|
      .cond (.t 89) (.seq (.reg <|
         .one none (.tk 2 (.c (.bool false))) <|
         .nil) <|
       .ret) <|
      .skip) <|
     .seq (.reg <|
       .one none (.tk 3 (.c (.int .i32 95))) <|
       .nil) <|
     .exit 1) <|
    .skip) <|
   .seq (.seq (.reg <|
      .one none (.mv 90 (.t 3)) <|
      .one none (.bi 91 .eql (.t 90) (.c (.int .i32 95))) <|
      .nil) <|
    .cond (.t 91) (.seq (.reg <|
       .one none (.tk 2 (.c (.bool false))) <|
       .nil) <|
     .ret) <|
    .skip) <|
   .reg <|
    .one none (.tk 3 (.c (.int .i32 33))) <|
    .nil) <|
  .reg <|
   .one none (.mv 55 (.t 4)) <|
   .one none (.bi 56 .add (.t 55) (.c (.int .i64 1))) <|
   .one none (.tk 4 (.t 56)) <|
   .nil) <|
 .seq (.reg <|
   .one none (.mv 92 (.t 3)) <|
   .one none (.bi 93 .neq (.t 92) (.c (.int .i32 95))) <|
   .one none (.tk 2 (.t 93)) <|
   .nil) <|
 .ret⟩
theorem has262 : Has Tryz.prog [] 262 ir262 := has_of Tryz.func262 (by kernel_rfl)
end Gx

/- Part Ir8. -/
open Go Go.Proofs Gx
namespace Gx
def ir263 : If := ⟨78, [.t 4],
 .seq (.reg <|
   .one none (.tk 4 (.c (.sl true []))) <|
   .nil) <|
 .seq (.reg <|
   .one none (.mv 6 (.t 1)) <|
   .one none (.cv 7 (.ints .u32) (.t 6)) <|
   .one none (.tk 5 (.t 7)) <|
   .nil) <|
 .block 0 <|
 .seq (.reg <|
   .one none (.mv 12 (.t 5)) <|
   .one none (.bi 13 .leq (.t 12) (.c (.int .u32 2047))) <|
   .one none (.tk 11 (.t 13)) <|
   .nil) <|
 .cond (.t 11) (.seq (.reg <|
    .one none (.tk 14 (.t 0)) <|
    .one none (.mv 15 (.t 1)) <|
    .one none (.bi 16 .shr (.t 15) (.c (.int .u64 6))) <|
    .one none (.cv 17 (.ints .u8) (.t 16)) <|
    .one none (.bi 18 .or (.c (.int .u8 192)) (.t 17)) <|
    .one none (.mv 19 (.t 1)) <|
    .one none (.cv 20 (.ints .u8) (.t 19)) <|
    .one none (.bi 21 .and (.t 20) (.c (.int .u8 63))) <|
    .one none (.bi 22 .or (.c (.int .u8 128)) (.t 21)) <|
    .one none (.bs 23 5 1 [(.t 18), (.t 22)]) <|
    .one none (.ap 24 5 1 (.t 14) (.t 23)) <|
    .one none (.tk 4 (.t 24)) <|
    .nil) <|
  .ret) <|
 .seq (.seq (.reg <|
    .one none (.mv 26 (.t 5)) <|
    .one none (.bi 27 .lss (.t 26) (.c (.int .u32 55296))) <|
    .one none (.tk 25 (.t 27)) <|
    .nil) <|
  .cond (.t 25) (.skip) <|
  .reg <|
   .one none (.mv 28 (.t 5)) <|
   .one none (.bi 29 .lss (.c (.int .u32 57343)) (.t 28)) <|
   .one none (.mv 30 (.t 29)) <|
   .one (some (30, true)) (.mv 31 (.t 5)) <|
   .one (some (30, true)) (.bi 32 .leq (.t 31) (.c (.int .u32 65535))) <|
   .one none (.pk 33 (.t 30) (.t 32) (.c (.bool false))) <|
   .one none (.tk 25 (.t 33)) <|
   .nil) <|
 .cond (.t 25) (.seq (.reg <|
    .one none (.tk 34 (.t 0)) <|
    .one none (.mv 35 (.t 1)) <|
    .one none (.bi 36 .shr (.t 35) (.c (.int .u64 12))) <|
    .one none (.cv 37 (.ints .u8) (.t 36)) <|
    .one none (.bi 38 .or (.c (.int .u8 224)) (.t 37)) <|
    .one none (.mv 39 (.t 1)) <|
    .one none (.bi 40 .shr (.t 39) (.c (.int .u64 6))) <|
    .one none (.cv 41 (.ints .u8) (.t 40)) <|
    .one none (.bi 42 .and (.t 41) (.c (.int .u8 63))) <|
    .one none (.bi 43 .or (.c (.int .u8 128)) (.t 42)) <|
    .one none (.mv 44 (.t 1)) <|
    .one none (.cv 45 (.ints .u8) (.t 44)) <|
    .one none (.bi 46 .and (.t 45) (.c (.int .u8 63))) <|
    .one none (.bi 47 .or (.c (.int .u8 128)) (.t 46)) <|
    .one none (.bs 48 5 1 [(.t 38), (.t 43), (.t 47)]) <|
    .one none (.ap 49 5 1 (.t 34) (.t 48)) <|
    .one none (.tk 4 (.t 49)) <|
    .nil) <|
  .ret) <|
 .seq (.reg <|
   .one none (.mv 51 (.t 5)) <|
   .one none (.bi 52 .gtr (.t 51) (.c (.int .u32 65535))) <|
   .one none (.mv 53 (.t 52)) <|
   .one (some (53, true)) (.mv 54 (.t 5)) <|
   .one (some (53, true)) (.bi 55 .leq (.t 54) (.c (.int .u32 1114111))) <|
   .one none (.pk 56 (.t 53) (.t 55) (.c (.bool false))) <|
   .one none (.tk 50 (.t 56)) <|
   .nil) <|
 .cond (.t 50) (.seq (.reg <|
    .one none (.tk 57 (.t 0)) <|
    .one none (.mv 58 (.t 1)) <|
    .one none (.bi 59 .shr (.t 58) (.c (.int .u64 18))) <|
    .one none (.cv 60 (.ints .u8) (.t 59)) <|
    .one none (.bi 61 .or (.c (.int .u8 240)) (.t 60)) <|
    .one none (.mv 62 (.t 1)) <|
    .one none (.bi 63 .shr (.t 62) (.c (.int .u64 12))) <|
    .one none (.cv 64 (.ints .u8) (.t 63)) <|
    .one none (.bi 65 .and (.t 64) (.c (.int .u8 63))) <|
    .one none (.bi 66 .or (.c (.int .u8 128)) (.t 65)) <|
    .one none (.mv 67 (.t 1)) <|
    .one none (.bi 68 .shr (.t 67) (.c (.int .u64 6))) <|
    .one none (.cv 69 (.ints .u8) (.t 68)) <|
    .one none (.bi 70 .and (.t 69) (.c (.int .u8 63))) <|
    .one none (.bi 71 .or (.c (.int .u8 128)) (.t 70)) <|
    .one none (.mv 72 (.t 1)) <|
    .one none (.cv 73 (.ints .u8) (.t 72)) <|
    .one none (.bi 74 .and (.t 73) (.c (.int .u8 63))) <|
    .one none (.bi 75 .or (.c (.int .u8 128)) (.t 74)) <|
    .one none (.bs 76 5 1 [(.t 61), (.t 66), (.t 71), (.t 75)]) <|
    .one none (.ap 77 5 1 (.t 57) (.t 76)) <|
    .one none (.tk 4 (.t 77)) <|
    .nil) <|
  .ret) <|
 .seq (.reg <|
   .one none (.tk 8 (.t 0)) <|
   .one none (.bs 9 5 1 [(.c (.int .u8 239)), (.c (.int .u8 191)), (.c (.int .u8 189))]) <|
   .one none (.ap 10 5 1 (.t 8) (.t 9)) <|
   .one none (.tk 4 (.t 10)) <|
   .nil) <|
 .ret⟩
theorem has263 : Has Tryz.prog [] 263 ir263 := has_of Tryz.func263 (by kernel_rfl)
end Gx

/- Part K2. -/
/- Go's library behind its contracts. -/
set_option linter.unusedSimpArgs false
set_option linter.unusedVariables false
namespace Gx
open Go Go.Proofs Go.RowKit
variable {G : Nat → Option Obj}

/-- The library's tables lie where they were laid. -/
class Laid (G : Nat → Option Obj) : Prop where
  utf : ∀ g w, GL G g w → Lib.Utf8Tabs 1 2 w
  pow : ∀ g w, GL G g w → Lib.TabIs Tryz.prog w "internal/strconv.uint64pow10" .u64 Lib.pow10Tab

theorem ent {f : FuncId} {fn : Func} (hf : Tryz.prog.funcs[f]? = some fn) (h : (fn.name == "runtime.NumGoroutine", fn.body.isSome) = (false, true)) (hlt : Nat.ble (f + 1) ynum = true := by rfl) : Enters Tryz.prog f :=
  ⟨Nat.le_of_ble_eq_true hlt, fn, hf, congrArg Prod.fst h, congrArg Prod.snd h⟩

theorem below_drewN (w : World) (n : Nat) : Below w.heap.size w (w.drewN n) := ⟨rfl, rfl, rfl, Nat.le_refl _, fun _ _ => rfl⟩
theorem below_grow (w : World) (n : Nat) (os : Array Obj) : Below w.heap.size w (Go.Sort.grow (w.drewN n) os) :=
  ⟨rfl, rfl, rfl, by simp [Go.Sort.grow], fun k hk => by simp [Go.Sort.grow, Array.getElem?_append, hk]⟩

theorem k64 (σ : St) (s : List UInt8) (c : UInt8) : ARet Tryz.prog G 64 [.str s, .int .u8 c.toNat] σ (.int .i64 (Lib.indexByte s c)) σ := by
  refine aret_strint (ent Tryz.func64 (by kernel_rfl)) fun g w s' hG hs hl => ?_
  refine (Tryz.strings_IndexByte s' _ w).mono ?_
  rintro e w' ⟨rfl, rfl⟩
  refine ⟨_, rfl, Below.refl _ _, ?_⟩
  have : ((c.toNat : Int).toNat.toUInt8) = c := by simp
  rw [hs, this]
  exact .int _ _
theorem k233 (σ : St) (s : List UInt8) (c : UInt8) : ARet Tryz.prog G 233 [.str s, .str [c]] σ (.int .i64 (Lib.indexByte s c)) σ := by
  refine aret_str2 (ent Tryz.func233 (by kernel_rfl)) fun g w s' t' hG hs hl ht hm => ?_
  have : t' = ⟨#[c]⟩ := by
    cases t' with
    | mk d => simp only at ht; congr; exact Array.toList_inj.1 (by simpa using ht)
  subst this
  refine (Tryz.stringslite_Index_one s' c w).mono ?_
  rintro e w' ⟨rfl, rfl⟩
  refine ⟨_, rfl, Below.refl _ _, ?_⟩
  rw [hs]
  exact .int _ _
theorem k221 (σ : St) (n : Int) : ARet Tryz.prog G 221 [.int .i32 n] σ (.bool (Lib.validRune n)) σ := by
  refine aret_int (ent Tryz.func221 (by kernel_rfl)) fun g w hG => ?_
  refine (Tryz.utf8_ValidRune n w).mono ?_
  rintro e w' ⟨rfl, rfl⟩
  exact ⟨_, rfl, Below.refl _ _, .bool _⟩
theorem k228 [Laid G] (σ : St) (n : Int) (h0 : -9223372036854775808 ≤ n) (h1 : n ≤ 9223372036854775807) : ARet Tryz.prog G 228 [.int .i64 n] σ (.str (Lib.itoa n)) σ := by
  refine aret_int (ent Tryz.func228 (by kernel_rfl)) fun g w hG => ?_
  refine (Tryz.strconv_Itoa n h0 h1 w (Laid.pow g w hG)).mono ?_
  rintro e w' ⟨rfl, k, os, rfl⟩
  exact ⟨_, rfl, below_grow _ _ _, .mkstr (by have := Lib.itoa_length_le n h0 h1; omega)⟩
/-- The sign that begins a text, and its bytes. -/
def dec (s : List UInt8) : Nat × Nat := Lib.decodeGo ⟨s.toArray⟩
theorem k145 [Laid G] (σ : St) (s : List UInt8) : ARet Tryz.prog G 145 [.str s] σ (.tup [.int .i32 (dec s).1, .int .i64 (dec s).2]) σ := by
  refine aret_str (ent Tryz.func145 (by kernel_rfl)) fun g w s' hG hs hl => ?_
  refine (Tryz.utf8_DecodeRuneInString s' w (Laid.utf g w hG)).mono ?_
  rintro e w' ⟨rfl, hB⟩
  have : s' = ⟨s.toArray⟩ := by cases s' with | mk d => simp only at hs; subst hs; simp
  subst this
  refine ⟨_, rfl, hB, .tup _ _ (by simp) fun i x v hx hv => ?_⟩
  match i with
  | 0 => simp at hx hv; subst hx hv; exact .int _ _
  | 1 => simp at hx hv; subst hx hv; exact .int _ _
  | n + 2 => simp at hx
theorem dec_le (s : List UInt8) : (dec s).1 ≤ 1114111 := by
  unfold dec Lib.decodeGo
  split
  · simp
  · exact Lib.rune_le _ _
theorem dec_nil : dec [] = (65533, 0) := rfl
theorem dec_pos {s : List UInt8} (h : s ≠ []) : 1 ≤ (dec s).2 ∧ (dec s).2 ≤ s.length := by
  have hs : (⟨s.toArray⟩ : ByteArray).size = s.length := by simp [ByteArray.size]
  have hl : 0 < s.length := List.length_pos_iff.2 h
  unfold dec Lib.decodeGo
  rw [if_neg (by rw [hs]; omega)]
  exact ⟨Lib.width_pos _ _, by have := Lib.width_le ⟨s.toArray⟩ (by rw [hs]; exact hl); rwa [hs] at this⟩
end Gx

/- Part K3. -/
/- Layer 1: signs. -/
set_option linter.unusedSimpArgs false
set_option linter.unusedVariables false
namespace Gx
open Go Go.Proofs Go.RowKit
variable {G : Nat → Option Obj}

/-- utf.First: the sign, -1 for none, and its bytes. -/
def first (s : List UInt8) : Int × Nat := if (dec s).1 = 65533 ∧ (dec s).2 < 3 then (-1, (dec s).2) else ((dec s).1, (dec s).2)
def printable (n : Int) : Bool :=
  if n < 32 then n == 9 || n == 10 || n == 13
  else if n < 127 then true
  else if n < 160 then n == 133
  else if n < 55296 then true
  else if n < 65536 then decide (57344 ≤ n) && decide (n ≤ 65533) && n != 65279
  else decide (n ≤ 1114111)
/-- A fault: why, and where. -/
def flt (why at_ : Int) : Pv := .agg [.int .i64 why, .int .i64 at_]

theorem k165 [Laid G] (σ : St) (s : List UInt8) : ARet Tryz.prog G 165 [.str s] σ (.tup [.int .i64 (first s).1, .int .i64 (first s).2]) σ := by
  refine ret_of has165 (Nat.le_of_ble_eq_true rfl) ?_
  simp only [ir165]
  have hw : IntKind.i64.wrap ((dec s).1 : Int) = (dec s).1 := by have := dec_le s; exact wrap64 (by omega)
  unfold first
  repeat' (first | simp (maxSteps := 1000000) (disch := omega) only [rb0, rb1, rb2, rb3, rb4, rb5, Od.ev, Ao.dst, Nat.reduceEqDiff, ↓reduceIte, reduceIte, reduceCtorEq, Nat.reduceAdd, Nat.reduceLeDiff, Nat.reduceSub, Int.reduceToNat, byt, Nat.reduceBEq] | with_reducible refine lw_of (fun _ => ?_) | with_reducible exact True.intro | with_reducible refine fin_same ?_ | with_reducible refine fin_loc ?_ ?_ ?_ | with_reducible exact Loc.refl _ | with_reducible refine Loc.push ?_ _ _ | with_reducible refine Loc.set ?_ _ _ (by first | omega | (simp only [push_n, set_n]; omega)) | with_reducible refine And.intro (by omega) ?_ | with_reducible refine cw_of (k145 _ _) ?_)
  by_cases h : (dec s).1 = 65533
  · by_cases h' : (dec s).2 < 3
    · repeat' (first | simp (maxSteps := 1000000) (disch := omega) only [rb0, rb1, rb2, rb3, rb4, rb5, Od.ev, Ao.dst, Nat.reduceEqDiff, ↓reduceIte, reduceIte, reduceCtorEq, Nat.reduceAdd, Nat.reduceLeDiff, Nat.reduceSub, Int.reduceToNat, byt, Nat.reduceBEq, h, h'] | with_reducible refine lw_of (fun _ => ?_) | with_reducible exact True.intro | with_reducible refine fin_same ?_ | with_reducible refine fin_loc ?_ ?_ ?_ | with_reducible exact Loc.refl _ | with_reducible refine Loc.push ?_ _ _ | with_reducible refine Loc.set ?_ _ _ (by first | omega | (simp only [push_n, set_n]; omega)) | with_reducible refine And.intro (by omega) ?_)
    · repeat' (first | simp (maxSteps := 1000000) (disch := omega) only [rb0, rb1, rb2, rb3, rb4, rb5, Od.ev, Ao.dst, Nat.reduceEqDiff, ↓reduceIte, reduceIte, reduceCtorEq, Nat.reduceAdd, Nat.reduceLeDiff, Nat.reduceSub, Int.reduceToNat, byt, Nat.reduceBEq, h, h', hw] | with_reducible refine lw_of (fun _ => ?_) | with_reducible exact True.intro | with_reducible refine fin_same ?_ | with_reducible refine fin_loc ?_ ?_ ?_ | with_reducible exact Loc.refl _ | with_reducible refine Loc.push ?_ _ _ | with_reducible refine Loc.set ?_ _ _ (by first | omega | (simp only [push_n, set_n]; omega)) | with_reducible refine And.intro (by omega) ?_)
  · have : ¬ ((dec s).1 : Int) = 65533 := by omega
    repeat' (first | simp (maxSteps := 1000000) (disch := omega) only [rb0, rb1, rb2, rb3, rb4, rb5, Od.ev, Ao.dst, Nat.reduceEqDiff, ↓reduceIte, reduceIte, reduceCtorEq, Nat.reduceAdd, Nat.reduceLeDiff, Nat.reduceSub, Int.reduceToNat, byt, Nat.reduceBEq, h, hw, this] | with_reducible refine lw_of (fun _ => ?_) | with_reducible exact True.intro | with_reducible refine fin_same ?_ | with_reducible refine fin_loc ?_ ?_ ?_ | with_reducible exact Loc.refl _ | with_reducible refine Loc.push ?_ _ _ | with_reducible refine Loc.set ?_ _ _ (by first | omega | (simp only [push_n, set_n]; omega)) | with_reducible refine And.intro (by omega) ?_)
theorem k113 (σ : St) (n : Int) : ARet Tryz.prog G 113 [.int .i64 n] σ (.bool (printable n)) σ := by
  refine ret_of has113 (Nat.le_of_ble_eq_true rfl) ?_
  simp only [ir113, printable]
  by_cases h1 : n < 32
  · by_cases h2 : n = 9
    · repeat' (first | simp (maxSteps := 1000000) (disch := omega) only [rb0, rb1, rb2, rb3, rb4, rb5, Od.ev, Ao.dst, Nat.reduceEqDiff, ↓reduceIte, reduceIte, reduceCtorEq, Nat.reduceAdd, Nat.reduceLeDiff, Nat.reduceSub, Int.reduceToNat, byt, Nat.reduceBEq, h2] | with_reducible refine lw_of (fun _ => ?_) | with_reducible exact True.intro | with_reducible refine fin_same ?_ | with_reducible refine fin_loc ?_ ?_ ?_ | with_reducible exact Loc.refl _ | with_reducible refine Loc.push ?_ _ _ | with_reducible refine Loc.set ?_ _ _ (by first | omega | (simp only [push_n, set_n]; omega)) | with_reducible refine And.intro (by omega) ?_)
      rfl
    · by_cases h3 : n = 10
      · repeat' (first | simp (maxSteps := 1000000) (disch := omega) only [rb0, rb1, rb2, rb3, rb4, rb5, Od.ev, Ao.dst, Nat.reduceEqDiff, ↓reduceIte, reduceIte, reduceCtorEq, Nat.reduceAdd, Nat.reduceLeDiff, Nat.reduceSub, Int.reduceToNat, byt, Nat.reduceBEq, h3] | with_reducible refine lw_of (fun _ => ?_) | with_reducible exact True.intro | with_reducible refine fin_same ?_ | with_reducible refine fin_loc ?_ ?_ ?_ | with_reducible exact Loc.refl _ | with_reducible refine Loc.push ?_ _ _ | with_reducible refine Loc.set ?_ _ _ (by first | omega | (simp only [push_n, set_n]; omega)) | with_reducible refine And.intro (by omega) ?_)
        rfl
      · repeat' (first | simp (maxSteps := 1000000) (disch := omega) only [rb0, rb1, rb2, rb3, rb4, rb5, Od.ev, Ao.dst, Nat.reduceEqDiff, ↓reduceIte, reduceIte, reduceCtorEq, Nat.reduceAdd, Nat.reduceLeDiff, Nat.reduceSub, Int.reduceToNat, byt, Nat.reduceBEq, h1] | with_reducible refine lw_of (fun _ => ?_) | with_reducible exact True.intro | with_reducible refine fin_same ?_ | with_reducible refine fin_loc ?_ ?_ ?_ | with_reducible exact Loc.refl _ | with_reducible refine Loc.push ?_ _ _ | with_reducible refine Loc.set ?_ _ _ (by first | omega | (simp only [push_n, set_n]; omega)) | with_reducible refine And.intro (by omega) ?_)
        simp only [beq_eq_false_iff_ne.2 h2, beq_eq_false_iff_ne.2 h3, Bool.false_or]
        by_cases h4 : n = 13 <;> simp [h4]
  · by_cases h2 : n < 127
    · repeat' (first | simp (maxSteps := 1000000) (disch := omega) only [rb0, rb1, rb2, rb3, rb4, rb5, Od.ev, Ao.dst, Nat.reduceEqDiff, ↓reduceIte, reduceIte, reduceCtorEq, Nat.reduceAdd, Nat.reduceLeDiff, Nat.reduceSub, Int.reduceToNat, byt, Nat.reduceBEq, h1, h2] | with_reducible refine lw_of (fun _ => ?_) | with_reducible exact True.intro | with_reducible refine fin_same ?_ | with_reducible refine fin_loc ?_ ?_ ?_ | with_reducible exact Loc.refl _ | with_reducible refine Loc.push ?_ _ _ | with_reducible refine Loc.set ?_ _ _ (by first | omega | (simp only [push_n, set_n]; omega)) | with_reducible refine And.intro (by omega) ?_)
    · by_cases h3 : n < 160
      · repeat' (first | simp (maxSteps := 1000000) (disch := omega) only [rb0, rb1, rb2, rb3, rb4, rb5, Od.ev, Ao.dst, Nat.reduceEqDiff, ↓reduceIte, reduceIte, reduceCtorEq, Nat.reduceAdd, Nat.reduceLeDiff, Nat.reduceSub, Int.reduceToNat, byt, Nat.reduceBEq, h1, h2, h3] | with_reducible refine lw_of (fun _ => ?_) | with_reducible exact True.intro | with_reducible refine fin_same ?_ | with_reducible refine fin_loc ?_ ?_ ?_ | with_reducible exact Loc.refl _ | with_reducible refine Loc.push ?_ _ _ | with_reducible refine Loc.set ?_ _ _ (by first | omega | (simp only [push_n, set_n]; omega)) | with_reducible refine And.intro (by omega) ?_)
        by_cases h4 : n = 133 <;> simp [h4]
      · by_cases h4 : n < 55296
        · repeat' (first | simp (maxSteps := 1000000) (disch := omega) only [rb0, rb1, rb2, rb3, rb4, rb5, Od.ev, Ao.dst, Nat.reduceEqDiff, ↓reduceIte, reduceIte, reduceCtorEq, Nat.reduceAdd, Nat.reduceLeDiff, Nat.reduceSub, Int.reduceToNat, byt, Nat.reduceBEq, h1, h2, h3, h4] | with_reducible refine lw_of (fun _ => ?_) | with_reducible exact True.intro | with_reducible refine fin_same ?_ | with_reducible refine fin_loc ?_ ?_ ?_ | with_reducible exact Loc.refl _ | with_reducible refine Loc.push ?_ _ _ | with_reducible refine Loc.set ?_ _ _ (by first | omega | (simp only [push_n, set_n]; omega)) | with_reducible refine And.intro (by omega) ?_)
        · by_cases h5 : n < 65536
          · by_cases h6 : n ≥ 57344
            · by_cases h7 : n ≤ 65533
              · repeat' (first | simp (maxSteps := 1000000) (disch := omega) only [rb0, rb1, rb2, rb3, rb4, rb5, Od.ev, Ao.dst, Nat.reduceEqDiff, ↓reduceIte, reduceIte, reduceCtorEq, Nat.reduceAdd, Nat.reduceLeDiff, Nat.reduceSub, Int.reduceToNat, byt, Nat.reduceBEq] | with_reducible refine lw_of (fun _ => ?_) | with_reducible exact True.intro | with_reducible refine fin_same ?_ | with_reducible refine fin_loc ?_ ?_ ?_ | with_reducible exact Loc.refl _ | with_reducible refine Loc.push ?_ _ _ | with_reducible refine Loc.set ?_ _ _ (by first | omega | (simp only [push_n, set_n]; omega)) | with_reducible refine And.intro (by omega) ?_)
                try (by_cases h8 : n = 65279 <;> simp [h8])
              · repeat' (first | simp (maxSteps := 1000000) (disch := omega) only [rb0, rb1, rb2, rb3, rb4, rb5, Od.ev, Ao.dst, Nat.reduceEqDiff, ↓reduceIte, reduceIte, reduceCtorEq, Nat.reduceAdd, Nat.reduceLeDiff, Nat.reduceSub, Int.reduceToNat, byt, Nat.reduceBEq] | with_reducible refine lw_of (fun _ => ?_) | with_reducible exact True.intro | with_reducible refine fin_same ?_ | with_reducible refine fin_loc ?_ ?_ ?_ | with_reducible exact Loc.refl _ | with_reducible refine Loc.push ?_ _ _ | with_reducible refine Loc.set ?_ _ _ (by first | omega | (simp only [push_n, set_n]; omega)) | with_reducible refine And.intro (by omega) ?_)
            · repeat' (first | simp (maxSteps := 1000000) (disch := omega) only [rb0, rb1, rb2, rb3, rb4, rb5, Od.ev, Ao.dst, Nat.reduceEqDiff, ↓reduceIte, reduceIte, reduceCtorEq, Nat.reduceAdd, Nat.reduceLeDiff, Nat.reduceSub, Int.reduceToNat, byt, Nat.reduceBEq] | with_reducible refine lw_of (fun _ => ?_) | with_reducible exact True.intro | with_reducible refine fin_same ?_ | with_reducible refine fin_loc ?_ ?_ ?_ | with_reducible exact Loc.refl _ | with_reducible refine Loc.push ?_ _ _ | with_reducible refine Loc.set ?_ _ _ (by first | omega | (simp only [push_n, set_n]; omega)) | with_reducible refine And.intro (by omega) ?_)
          · repeat' (first | simp (maxSteps := 1000000) (disch := omega) only [rb0, rb1, rb2, rb3, rb4, rb5, Od.ev, Ao.dst, Nat.reduceEqDiff, ↓reduceIte, reduceIte, reduceCtorEq, Nat.reduceAdd, Nat.reduceLeDiff, Nat.reduceSub, Int.reduceToNat, byt, Nat.reduceBEq] | with_reducible refine lw_of (fun _ => ?_) | with_reducible exact True.intro | with_reducible refine fin_same ?_ | with_reducible refine fin_loc ?_ ?_ ?_ | with_reducible exact Loc.refl _ | with_reducible refine Loc.push ?_ _ _ | with_reducible refine Loc.set ?_ _ _ (by first | omega | (simp only [push_n, set_n]; omega)) | with_reducible refine And.intro (by omega) ?_)
theorem k111 (σ : St) (s : List UInt8) (n : Int) : ARet Tryz.prog G 111 [.str s, .int .i64 n] σ (if n < s.length then flt 8 n else flt 0 0) σ := by
  refine ret_of has111 (Nat.le_of_ble_eq_true rfl) ?_
  simp only [ir111, flt]
  repeat' (first | simp (maxSteps := 1000000) (disch := omega) only [rb0, rb1, rb2, rb3, rb4, rb5, Od.ev, Ao.dst, Nat.reduceEqDiff, ↓reduceIte, reduceIte, reduceCtorEq, Nat.reduceAdd, Nat.reduceLeDiff, Nat.reduceSub, Int.reduceToNat, byt, Nat.reduceBEq] | with_reducible refine lw_of (fun _ => ?_) | with_reducible exact True.intro | with_reducible refine fin_same ?_ | with_reducible refine fin_loc ?_ ?_ ?_ | with_reducible exact Loc.refl _ | with_reducible refine Loc.push ?_ _ _ | with_reducible refine Loc.set ?_ _ _ (by first | omega | (simp only [push_n, set_n]; omega)) | with_reducible refine And.intro (by omega) ?_)
  refine bw_dec (fun h => ?_) (fun h => ?_)
  · repeat' (first | simp (maxSteps := 1000000) (disch := omega) only [rb0, rb1, rb2, rb3, rb4, rb5, Od.ev, Ao.dst, Nat.reduceEqDiff, ↓reduceIte, reduceIte, reduceCtorEq, Nat.reduceAdd, Nat.reduceLeDiff, Nat.reduceSub, Int.reduceToNat, byt, Nat.reduceBEq, h] | with_reducible refine lw_of (fun _ => ?_) | with_reducible exact True.intro | with_reducible refine fin_same ?_ | with_reducible refine fin_loc ?_ ?_ ?_ | with_reducible exact Loc.refl _ | with_reducible refine Loc.push ?_ _ _ | with_reducible refine Loc.set ?_ _ _ (by first | omega | (simp only [push_n, set_n]; omega)) | with_reducible refine And.intro (by omega) ?_)
  · repeat' (first | simp (maxSteps := 1000000) (disch := omega) only [rb0, rb1, rb2, rb3, rb4, rb5, Od.ev, Ao.dst, Nat.reduceEqDiff, ↓reduceIte, reduceIte, reduceCtorEq, Nat.reduceAdd, Nat.reduceLeDiff, Nat.reduceSub, Int.reduceToNat, byt, Nat.reduceBEq, h] | with_reducible refine lw_of (fun _ => ?_) | with_reducible exact True.intro | with_reducible refine fin_same ?_ | with_reducible refine fin_loc ?_ ?_ ?_ | with_reducible exact Loc.refl _ | with_reducible refine Loc.push ?_ _ _ | with_reducible refine Loc.set ?_ _ _ (by first | omega | (simp only [push_n, set_n]; omega)) | with_reducible refine And.intro (by omega) ?_)
theorem first_pos {s : List UInt8} (h : s ≠ []) : 1 ≤ (first s).2 ∧ (first s).2 ≤ s.length := by
  unfold first
  split <;> exact dec_pos h
/-- utf.walk: how far one comes. -/
def walk (p : Int → Bool) (s : List UInt8) : Nat :=
  if h : s = [] then 0
  else if p (first s).1 then (first s).2 + walk p (s.drop (first s).2) else 0
termination_by s.length
decreasing_by
  have := first_pos h
  have := List.length_pos_iff.2 h
  simp only [List.length_drop]; omega
theorem walk_nil (p : Int → Bool) : walk p [] = 0 := by rw [walk]; simp
theorem walk_cons (p : Int → Bool) {s : List UInt8} (h : s ≠ []) : walk p s = if p (first s).1 then (first s).2 + walk p (s.drop (first s).2) else 0 := by
  conv => lhs; rw [walk]
  simp [h]
theorem k112 [Laid G] (σ : St) (s : List UInt8) (f : Nat) (a b : List Pv) (p : Int → Bool) (hp : ∀ n, ARet Tryz.prog G f (a ++ [.int .i64 n] ++ b) σ (.bool (p n)) σ) : ARet Tryz.prog G 112 [.str s, .clo f a b] σ (.int .i64 (walk p s)) σ := by
  refine ret_of has112 (Nat.le_of_ble_eq_true rfl) ?_
  simp only [ir112]
  repeat' (first | simp (maxSteps := 1000000) (disch := omega) only [rb0, rb1, rb2, rb3, rb4, rb5, Od.ev, Ao.dst, Nat.reduceEqDiff, ↓reduceIte, reduceIte, reduceCtorEq, Nat.reduceAdd, Nat.reduceLeDiff, Nat.reduceSub, Int.reduceToNat, byt, Nat.reduceBEq] | with_reducible refine lw_of (fun _ => ?_) | with_reducible exact True.intro | with_reducible refine fin_same ?_ | with_reducible refine fin_loc ?_ ?_ ?_ | with_reducible exact Loc.refl _ | with_reducible refine Loc.push ?_ _ _ | with_reducible refine Loc.set ?_ _ _ (by first | omega | (simp only [push_n, set_n]; omega)) | with_reducible refine And.intro (by omega) ?_)
  refine loop_rule (fun n ρ σ' => σ' = σ ∧ ∃ at_ : Nat, n = s.length - at_ ∧ at_ ≤ s.length ∧ ρ 0 = .str s ∧ ρ 1 = .clo f a b ∧ ρ 5 = .int .i64 at_ ∧ at_ + walk p (s.drop at_) = walk p s) (fun n ρ σ' hI => ?_) ⟨rfl, 0, rfl, by omega, rfl, rfl, rfl, by simp⟩
  obtain ⟨rfl, at_, rfl, hle, h0, h1, h5, hw⟩ := hI
  by_cases hlt : at_ < s.length
  · have hne : s.drop at_ ≠ [] := by
      intro h; have := congrArg List.length h; simp at this; omega
    have hf := first_pos hne
    rw [List.length_drop] at hf
    rw [walk_cons p hne] at hw
    repeat' (first | simp (maxSteps := 1000000) (disch := omega) only [rb0, rb1, rb2, rb3, rb4, rb5, Od.ev, Ao.dst, Nat.reduceEqDiff, ↓reduceIte, reduceIte, reduceCtorEq, Nat.reduceAdd, Nat.reduceLeDiff, Nat.reduceSub, Int.reduceToNat, byt, Nat.reduceBEq, h0, h1, h5] | with_reducible refine lw_of (fun _ => ?_) | with_reducible exact True.intro | with_reducible refine fin_same ?_ | with_reducible refine fin_loc ?_ ?_ ?_ | with_reducible exact Loc.refl _ | with_reducible refine Loc.push ?_ _ _ | with_reducible refine Loc.set ?_ _ _ (by first | omega | (simp only [push_n, set_n]; omega)) | with_reducible refine And.intro (by omega) ?_ | with_reducible refine cw_of (hp _) ?_ | with_reducible refine cw_of (k165 _ _) ?_)
    refine bw_split (fun h => ?_) (fun h => ?_)
    · have h' : p (first (List.drop at_ s)).1 = false := by simpa using h
      rw [h'] at hw
      repeat' (first | simp (maxSteps := 1000000) (disch := omega) only [rb0, rb1, rb2, rb3, rb4, rb5, Od.ev, Ao.dst, Nat.reduceEqDiff, ↓reduceIte, reduceIte, reduceCtorEq, Nat.reduceAdd, Nat.reduceLeDiff, Nat.reduceSub, Int.reduceToNat, byt, Nat.reduceBEq, h', h5] | with_reducible refine lw_of (fun _ => ?_) | with_reducible exact True.intro | with_reducible refine fin_same ?_ | with_reducible refine fin_loc ?_ ?_ ?_ | with_reducible exact Loc.refl _ | with_reducible refine Loc.push ?_ _ _ | with_reducible refine Loc.set ?_ _ _ (by first | omega | (simp only [push_n, set_n]; omega)) | with_reducible refine And.intro (by omega) ?_)
      simp only [Bool.false_eq_true, if_false] at hw; omega
    · have h' : p (first (List.drop at_ s)).1 = true := by simpa using h
      rw [if_pos h', List.drop_drop] at hw
      repeat' (first | simp (maxSteps := 1000000) (disch := omega) only [rb0, rb1, rb2, rb3, rb4, rb5, Od.ev, Ao.dst, Nat.reduceEqDiff, ↓reduceIte, reduceIte, reduceCtorEq, Nat.reduceAdd, Nat.reduceLeDiff, Nat.reduceSub, Int.reduceToNat, byt, Nat.reduceBEq, h', h5, h0, h1] | with_reducible refine lw_of (fun _ => ?_) | with_reducible exact True.intro | with_reducible refine fin_same ?_ | with_reducible refine fin_loc ?_ ?_ ?_ | with_reducible exact Loc.refl _ | with_reducible refine Loc.push ?_ _ _ | with_reducible refine Loc.set ?_ _ _ (by first | omega | (simp only [push_n, set_n]; omega)) | with_reducible refine And.intro (by omega) ?_)
      exact ⟨_, by omega, at_ + (first (List.drop at_ s)).2, rfl, by omega, by simp, by omega⟩
  · repeat' (first | simp (maxSteps := 1000000) (disch := omega) only [rb0, rb1, rb2, rb3, rb4, rb5, Od.ev, Ao.dst, Nat.reduceEqDiff, ↓reduceIte, reduceIte, reduceCtorEq, Nat.reduceAdd, Nat.reduceLeDiff, Nat.reduceSub, Int.reduceToNat, byt, Nat.reduceBEq, h0, h1, h5] | with_reducible refine lw_of (fun _ => ?_) | with_reducible exact True.intro | with_reducible refine fin_same ?_ | with_reducible refine fin_loc ?_ ?_ ?_ | with_reducible exact Loc.refl _ | with_reducible refine Loc.push ?_ _ _ | with_reducible refine Loc.set ?_ _ _ (by first | omega | (simp only [push_n, set_n]; omega)) | with_reducible refine And.intro (by omega) ?_)
    rw [List.drop_eq_nil_of_le (by omega), walk_nil] at hw; omega
end Gx
