import Derived.Test.YtgbkgdhnfjndgaaGreatDoorE1
import Derived.KernelRfl
import Derived.Test.YtgbkgdhnfjndgaaGreatDoorProg
/- A part of the proof: a calculus of values over the model, and the functions that the statement reaches, each once, in that calculus. -/
set_option linter.all false
set_option linter.unusedSimpArgs false
set_option linter.unusedVariables false

/- Part Ir3. -/
open Go Go.Proofs Gx
namespace Gx
def ir103 : If := ⟨27, [.t 4],
 .seq (.reg <|
   .one none (.tk 4 (.c (.bool false))) <|
   .nil) <|
 .seq (.seq (.reg <|
    .one none (.mv 7 (.t 0)) <|
    .nil) <|
  .block 0 <|
  .seq (.seq (.reg <|
     .one none (.bi 9 .eql (.t 7) (.c (.int .i64 2))) <|
     .one none (.tk 8 (.t 9)) <|
     .nil) <|
   .cond (.t 8) (.skip) <|
   .reg <|
    .one none (.bi 10 .eql (.t 7) (.c (.int .i64 3))) <|
    .one none (.tk 8 (.t 10)) <|
    .nil) <|
  .cond (.t 8) (.seq (.reg <|
     .one none (.mv 11 (.t 1)) <|
     .one none (.ca (some 12) (.c (.clo 93 [] [])) [(false, (.t 11))]) <|
     .one none (.mv 13 (.t 0)) <|
     .one none (.bi 14 .eql (.t 12) (.t 13)) <|
     .one none (.tk 4 (.t 14)) <|
     .nil) <|
   .ret) <|
  .seq (.reg <|
    .one none (.bi 16 .eql (.t 7) (.c (.int .i64 4))) <|
    .one none (.tk 15 (.t 16)) <|
    .nil) <|
  .cond (.t 15) (.seq (.reg <|
     .one none (.mv 18 (.t 1)) <|
     .one none (.ca (some 19) (.c (.clo 161 [] [])) [(false, (.t 18))]) <|
     .one none (.mv 17 (.t 19)) <|
     .one none (.ex 20 (.t 17) 0) <|
     .one none (.ex 21 (.t 17) 1) <|
     .one none (.al 6 25 [(.int .i64 0), (.int .i64 0)]) <|
     .one none (.tk 5 (.t 20)) <|
     .one none (.st 2 (.t 6) (.t 21)) <|
     .nil) <|
   .seq (.reg <|
     .one none (.ld 22 (some 2) (.t 6)) <|
     .one none (.bd 23 [(.int .i64 0), (.int .i64 0)] []) <|
     .one none (.eq 24 false [1, 1] (.t 22) (.t 23)) <|
     .one none (.tk 4 (.t 24)) <|
     .nil) <|
   .ret) <|
  .skip) <|
 .seq (.reg <|
   .one none (.mv 25 (.t 1)) <|
   .one none (.bi 26 .eql (.t 25) (.c (.str []))) <|
   .one none (.tk 4 (.t 26)) <|
   .nil) <|
 .ret⟩
theorem has103 : Has Tryz.prog [] 103 ir103 := has_of Tryz.func103 (by kernel_rfl)
def ir104 : If := ⟨15, [.t 2],
 .seq (.reg <|
   .one none (.tk 2 (.c (.bool false))) <|
   .nil) <|
 .seq (.reg <|
   .one none (.mv 3 (.t 0)) <|
   .one none (.bi 4 .neq (.t 3) (.c (.str []))) <|
   .one none (.mv 5 (.t 4)) <|
   .one (some (5, true)) (.mv 6 (.t 0)) <|
   .one (some (5, true)) (.ln 7 true (.t 6)) <|
   .one (some (5, true)) (.bi 8 .leq (.t 7) (.c (.int .i64 32))) <|
   .one none (.pk 9 (.t 5) (.t 8) (.c (.bool false))) <|
   .one none (.mv 10 (.t 9)) <|
   .one (some (10, true)) (.mv 11 (.t 0)) <|
   .one (some (10, true)) (.ca (some 12) (.c (.clo 150 [] [])) [(false, (.t 11)), (false, (.c (.str [97, 98, 99, 100, 101, 102, 103, 104, 105, 106, 107, 108, 109, 110, 111, 112, 113, 114, 115, 116, 117, 118, 119, 120, 121, 122, 65, 66, 67, 68, 69, 70, 71, 72, 73, 74, 75, 76, 77, 78, 79, 80, 81, 82, 83, 84, 85, 86, 87, 88, 89, 90, 48, 49, 50, 51, 52, 53, 54, 55, 56, 57, 45, 95])))]) <|
   .one (some (10, true)) (.bi 13 .eql (.t 12) (.c (.str []))) <|
   .one none (.pk 14 (.t 10) (.t 13) (.c (.bool false))) <|
   .one none (.tk 2 (.t 14)) <|
   .nil) <|
 .ret⟩
theorem has104 : Has Tryz.prog [] 104 ir104 := has_of Tryz.func104 (by kernel_rfl)
def ir105 : If := ⟨9, [.t 2],
 .seq (.reg <|
   .one none (.tk 2 (.c (.bool false))) <|
   .nil) <|
 .seq (.reg <|
   .one none (.mv 3 (.t 0)) <|
   .one none (.bi 4 .geq (.t 3) (.c (.int .i64 1))) <|
   .one none (.mv 5 (.t 4)) <|
   .one (some (5, true)) (.mv 6 (.t 0)) <|
   .one (some (5, true)) (.bi 7 .leq (.t 6) (.c (.int .i64 4))) <|
   .one none (.pk 8 (.t 5) (.t 7) (.c (.bool false))) <|
   .one none (.tk 2 (.t 8)) <|
   .nil) <|
 .ret⟩
theorem has105 : Has Tryz.prog [] 105 ir105 := has_of Tryz.func105 (by kernel_rfl)
def ir108 : If := ⟨4, [.t 2],
 .seq (.reg <|
   .one none (.bx 1 9 1 (.t 0)) <|
   .one none (.tk 2 (.c .nilf)) <|
   .nil) <|
 .seq (.reg <|
   .one none (.mf 3 162 [] [(.t 1)]) <|
   .one none (.tk 2 (.t 3)) <|
   .nil) <|
 .ret⟩
theorem has108 : Has Tryz.prog [] 108 ir108 := has_of Tryz.func108 (by kernel_rfl)
def ir109 : If := ⟨11, [.t 4, .t 5],
 .seq (.reg <|
   .one none (.tk 4 (.c (.str []))) <|
   .one none (.tk 5 (.c (.bool false))) <|
   .nil) <|
 .seq (.reg <|
   .one none (.mv 6 (.t 0)) <|
   .one none (.mv 7 (.t 1)) <|
   .one none (.ca (some 8) (.c (.clo 163 [] [])) [(false, (.t 6)), (false, (.t 7))]) <|
   .one none (.ex 9 (.t 8) 0) <|
   .one none (.ex 10 (.t 8) 1) <|
   .one none (.tk 4 (.t 9)) <|
   .one none (.tk 5 (.t 10)) <|
   .nil) <|
 .ret⟩
theorem has109 : Has Tryz.prog [] 109 ir109 := has_of Tryz.func109 (by kernel_rfl)
def ir110 : If := ⟨8, [.t 4],
 .seq (.reg <|
   .one none (.tk 4 (.c (.str []))) <|
   .nil) <|
 .seq (.reg <|
   .one none (.mv 5 (.t 0)) <|
   .one none (.mv 6 (.t 1)) <|
   .one none (.ca (some 7) (.c (.clo 164 [] [])) [(false, (.t 5)), (false, (.t 6))]) <|
   .one none (.tk 4 (.t 7)) <|
   .nil) <|
 .ret⟩
theorem has110 : Has Tryz.prog [] 110 ir110 := has_of Tryz.func110 (by kernel_rfl)
def ir111 : If := ⟨12, [.cell 4 (some 2)],
 .seq (.reg <|
   .one none (.al 4 25 [(.int .i64 0), (.int .i64 0)]) <|
   .nil) <|
 .seq (.seq (.reg <|
    .one none (.mv 5 (.t 1)) <|
    .one none (.mv 6 (.t 0)) <|
    .one none (.ln 7 true (.t 6)) <|
    .one none (.bi 8 .lss (.t 5) (.t 7)) <|
    .nil) <|
  .cond (.t 8) (.seq (.reg <|
     .one none (.mv 9 (.t 1)) <|
     .one none (.bd 10 [(.int .i64 0), (.int .i64 0)] [(0, 1, (.c (.int .i64 8))), (1, 1, (.t 9))]) <|
     .one none (.st 2 (.t 4) (.t 10)) <|
     .nil) <|
   .ret) <|
  .skip) <|
 .seq (.reg <|
   .one none (.bd 11 [(.int .i64 0), (.int .i64 0)] []) <|
   .one none (.st 2 (.t 4) (.t 11)) <|
   .nil) <|
 .ret⟩
theorem has111 : Has Tryz.prog [] 111 ir111 := has_of Tryz.func111 (by kernel_rfl)
def ir112 : If := ⟨27, [.t 4],
 .seq (.reg <|
   .one none (.tk 4 (.c (.int .i64 0))) <|
   .nil) <|
 .seq (.reg <|
   .one none (.tk 5 (.c (.int .i64 0))) <|
   .nil) <|
 .seq (.block 0 <|
  .loop <|
  .seq (.seq (.reg <|
     .one none (.mv 8 (.t 5)) <|
     .one none (.mv 9 (.t 0)) <|
     .one none (.ln 10 true (.t 9)) <|
     .one none (.bi 11 .lss (.t 8) (.t 10)) <|
     .nil) <|
   .cond (.t 11) (.skip) <|
   .exit 0) <|
  .block 1 <|
  .seq (.reg <|
    .one none (.mv 13 (.t 0)) <|
    .one none (.mv 14 (.t 5)) <|
    .one none (.sc 15 0 (.t 13) (some (.t 14)) none none) <|
    .one none (.ca (some 16) (.c (.clo 165 [] [])) [(false, (.t 15))]) <|
    .one none (.mv 12 (.t 16)) <|
    .one none (.ex 17 (.t 12) 0) <|
    .one none (.ex 18 (.t 12) 1) <|
    .one none (.tk 6 (.t 17)) <|
    .one none (.tk 7 (.t 18)) <|
    .nil) <|
  .seq (.seq (.reg <|
     .one none (.mv 19 (.t 1)) <|
     .one none (.mv 20 (.t 6)) <|
     .one none (.ca (some 21) (.t 19) [(false, (.t 20))]) <|
     .one none (.no 22 .not (.t 21)) <|
     .nil) <|
   .cond (.t 22) (.exit 0) <|
   .skip) <|
  .reg <|
   .one none (.mv 23 (.t 5)) <|
   .one none (.mv 24 (.t 7)) <|
   .one none (.bi 25 .add (.t 23) (.t 24)) <|
   .one none (.tk 5 (.t 25)) <|
   .nil) <|
 .seq (.reg <|
   .one none (.mv 26 (.t 5)) <|
   .one none (.tk 4 (.t 26)) <|
   .nil) <|
 .ret⟩
theorem has112 : Has Tryz.prog [] 112 ir112 := has_of Tryz.func112 (by kernel_rfl)
def ir113 : If := ⟨42, [.t 2],
 .seq (.reg <|
   .one none (.tk 2 (.c (.bool false))) <|
   .nil) <|
 .seq (.block 0 <|
  .seq (.reg <|
    .one none (.mv 4 (.t 0)) <|
    .one none (.bi 5 .lss (.t 4) (.c (.int .i64 32))) <|
    .one none (.tk 3 (.t 5)) <|
    .nil) <|
  .cond (.t 3) (.seq (.reg <|
     .one none (.mv 6 (.t 0)) <|
     .one none (.bi 7 .eql (.t 6) (.c (.int .i64 9))) <|
     .one none (.mv 8 (.t 7)) <|
     .one (some (8, false)) (.mv 9 (.t 0)) <|
     .one (some (8, false)) (.bi 10 .eql (.t 9) (.c (.int .i64 10))) <|
     .one none (.pk 11 (.t 8) (.c (.bool true)) (.t 10)) <|
     .one none (.mv 12 (.t 11)) <|
     .one (some (12, false)) (.mv 13 (.t 0)) <|
     .one (some (12, false)) (.bi 14 .eql (.t 13) (.c (.int .i64 13))) <|
     .one none (.pk 15 (.t 12) (.c (.bool true)) (.t 14)) <|
     .one none (.tk 2 (.t 15)) <|
     .nil) <|
   .ret) <|
  .seq (.reg <|
    .one none (.mv 17 (.t 0)) <|
    .one none (.bi 18 .lss (.t 17) (.c (.int .i64 127))) <|
    .one none (.tk 16 (.t 18)) <|
    .nil) <|
  .cond (.t 16) (.seq (.reg <|
     .one none (.tk 2 (.c (.bool true))) <|
     .nil) <|
   .ret) <|
  .seq (.reg <|
    .one none (.mv 20 (.t 0)) <|
    .one none (.bi 21 .lss (.t 20) (.c (.int .i64 160))) <|
    .one none (.tk 19 (.t 21)) <|
    .nil) <|
  .cond (.t 19) (.seq (.reg <|
     .one none (.mv 22 (.t 0)) <|
     .one none (.bi 23 .eql (.t 22) (.c (.int .i64 133))) <|
     .one none (.tk 2 (.t 23)) <|
     .nil) <|
   .ret) <|
  .seq (.reg <|
    .one none (.mv 25 (.t 0)) <|
    .one none (.bi 26 .lss (.t 25) (.c (.int .i64 55296))) <|
    .one none (.tk 24 (.t 26)) <|
    .nil) <|
  .cond (.t 24) (.seq (.reg <|
     .one none (.tk 2 (.c (.bool true))) <|
     .nil) <|
   .ret) <|
  .seq (.reg <|
    .one none (.mv 28 (.t 0)) <|
    .one none (.bi 29 .lss (.t 28) (.c (.int .i64 65536))) <|
    .one none (.tk 27 (.t 29)) <|
    .nil) <|
  .cond (.t 27) (.seq (.reg <|
     .one none (.mv 30 (.t 0)) <|
     .one none (.bi 31 .geq (.t 30) (.c (.int .i64 57344))) <|
     .one none (.mv 32 (.t 31)) <|
     .one (some (32, true)) (.mv 33 (.t 0)) <|
     .one (some (32, true)) (.bi 34 .leq (.t 33) (.c (.int .i64 65533))) <|
     .one none (.pk 35 (.t 32) (.t 34) (.c (.bool false))) <|
     .one none (.mv 36 (.t 35)) <|
     .one (some (36, true)) (.mv 37 (.t 0)) <|
     .one (some (36, true)) (.bi 38 .neq (.t 37) (.c (.int .i64 65279))) <|
     .one none (.pk 39 (.t 36) (.t 38) (.c (.bool false))) <|
     .one none (.tk 2 (.t 39)) <|
     .nil) <|
   .ret) <|
  .skip) <|
 .seq (.reg <|
   .one none (.mv 40 (.t 0)) <|
   .one none (.bi 41 .leq (.t 40) (.c (.int .i64 1114111))) <|
   .one none (.tk 2 (.t 41)) <|
   .nil) <|
 .ret⟩
theorem has113 : Has Tryz.prog [] 113 ir113 := has_of Tryz.func113 (by kernel_rfl)
def ir115 : If := ⟨23, [.t 4],
 .seq (.reg <|
   .one none (.tk 4 (.c (.str []))) <|
   .nil) <|
 .seq (.block 0 <|
  .loop <|
  .seq (.seq (.reg <|
     .one none (.mv 5 (.t 0)) <|
     .one none (.ln 6 true (.t 5)) <|
     .one none (.bi 7 .gtr (.t 6) (.c (.int .i64 0))) <|
     .one none (.mv 8 (.t 7)) <|
     .one (some (8, true)) (.mv 9 (.t 0)) <|
     .one (some (8, true)) (.mv 10 (.t 0)) <|
     .one (some (8, true)) (.ln 11 true (.t 10)) <|
     .one (some (8, true)) (.bi 12 .sub (.t 11) (.c (.int .i64 1))) <|
     .one (some (8, true)) (.ix 13 (.t 9) (.t 12)) <|
     .one (some (8, true)) (.mv 14 (.t 1)) <|
     .one (some (8, true)) (.bi 15 .eql (.t 13) (.t 14)) <|
     .one none (.pk 16 (.t 8) (.t 15) (.c (.bool false))) <|
     .nil) <|
   .cond (.t 16) (.skip) <|
   .exit 0) <|
  .block 1 <|
  .reg <|
   .one none (.mv 17 (.t 0)) <|
   .one none (.mv 18 (.t 0)) <|
   .one none (.ln 19 true (.t 18)) <|
   .one none (.bi 20 .sub (.t 19) (.c (.int .i64 1))) <|
   .one none (.sc 21 0 (.t 17) none (some (.t 20)) none) <|
   .one none (.tk 0 (.t 21)) <|
   .nil) <|
 .seq (.reg <|
   .one none (.mv 22 (.t 0)) <|
   .one none (.tk 4 (.t 22)) <|
   .nil) <|
 .ret⟩
theorem has115 : Has Tryz.prog [] 115 ir115 := has_of Tryz.func115 (by kernel_rfl)
def ir118 : If := ⟨18, [.t 4],
 .seq (.reg <|
   .one none (.tk 4 (.c (.bool false))) <|
   .nil) <|
 .seq (.reg <|
   .one none (.mv 5 (.t 0)) <|
   .one none (.ln 6 true (.t 5)) <|
   .one none (.mv 7 (.t 1)) <|
   .one none (.ln 8 true (.t 7)) <|
   .one none (.bi 9 .geq (.t 6) (.t 8)) <|
   .one none (.mv 10 (.t 9)) <|
   .one (some (10, true)) (.mv 11 (.t 0)) <|
   .one (some (10, true)) (.mv 12 (.t 1)) <|
   .one (some (10, true)) (.ln 13 true (.t 12)) <|
   .one (some (10, true)) (.sc 14 0 (.t 11) none (some (.t 13)) none) <|
   .one (some (10, true)) (.mv 15 (.t 1)) <|
   .one (some (10, true)) (.bi 16 .eql (.t 14) (.t 15)) <|
   .one none (.pk 17 (.t 10) (.t 16) (.c (.bool false))) <|
   .one none (.tk 4 (.t 17)) <|
   .nil) <|
 .ret⟩
theorem has118 : Has Tryz.prog [] 118 ir118 := has_of Tryz.func118 (by kernel_rfl)
def ir119 : If := ⟨92, [.cell 6 (some 4)],
 .seq (.reg <|
   .one none (.al 6 30 [(.int .i64 0), (.str []), (.str []), (.sl true [])]) <|
   .nil) <|
 .seq (.reg <|
   .one none (.mv 14 (.t 0)) <|
   .one none (.ca (some 15) (.c (.clo 168 [] [])) [(false, (.t 14)), (false, (.c (.int .i64 0)))]) <|
   .nil) <|
 .seq (.reg <|
   .one none (.mv 16 (.t 0)) <|
   .one none (.mv 17 (.t 1)) <|
   .one none (.ca (some 18) (.c (.clo 169 [] [])) [(false, (.t 16)), (false, (.t 17))]) <|
   .one none (.al 7 192 [(.str []), (.int .i64 0), (.int .i64 0)]) <|
   .one none (.st 3 (.t 7) (.t 18)) <|
   .nil) <|
 .seq (.reg <|
   .one none (.tk 8 (.c (.int .i64 5))) <|
   .one none (.tk 9 (.c (.str [93]))) <|
   .nil) <|
 .seq (.block 0 <|
  .seq (.reg <|
    .one none (.mv 31 (.t 0)) <|
    .one none (.ca (some 32) (.c (.clo 170 [] [])) [(false, (.t 31)), (false, (.c (.str [42])))]) <|
    .one none (.tk 30 (.t 32)) <|
    .nil) <|
  .cond (.t 30) (.seq (.seq (.reg <|
      .one none (.ld 33 (some 3) (.t 7)) <|
      .one none (.bd 34 [(.str []), (.int .i64 0), (.int .i64 0)] []) <|
      .one none (.eq 35 true [2, 1, 1] (.t 33) (.t 34)) <|
      .nil) <|
    .cond (.t 35) (.reg <|
      .one none (.mv 36 (.t 0)) <|
      .one none (.ca (some 37) (.c (.clo 171 [] [])) [(false, (.t 36))]) <|
      .nil) <|
    .skip) <|
   .seq (.reg <|
     .one none (.mv 38 (.t 0)) <|
     .one none (.mv 39 (.t 0)) <|
     .one none (.nc 40 (.t 39)) <|
     .one none (.fa 41 1 (.t 40)) <|
     .one none (.ld 42 none (.t 41)) <|
     .one none (.sc 43 0 (.t 42) (some (.c (.int .i64 1))) none none) <|
     .one none (.nc 44 (.t 38)) <|
     .one none (.fa 45 1 (.t 44)) <|
     .one none (.st 1 (.t 45) (.t 43)) <|
     .nil) <|
   .seq (.reg <|
     .one none (.mv 46 (.t 0)) <|
     .one none (.ca (some 47) (.c (.clo 172 [] [])) [(false, (.t 46))]) <|
     .one none (.bd 48 [(.int .i64 0), (.str []), (.str []), (.sl true [])] [(0, 1, (.c (.int .i64 7))), (2, 1, (.t 47))]) <|
     .one none (.st 4 (.t 6) (.t 48)) <|
     .nil) <|
   .ret) <|
  .seq (.reg <|
    .one none (.mv 50 (.t 0)) <|
    .one none (.ca (some 51) (.c (.clo 170 [] [])) [(false, (.t 50)), (false, (.c (.str [91])))]) <|
    .one none (.tk 49 (.t 51)) <|
    .nil) <|
  .cond (.t 49) (.skip) <|
  .seq (.reg <|
    .one none (.mv 53 (.t 0)) <|
    .one none (.ca (some 54) (.c (.clo 170 [] [])) [(false, (.t 53)), (false, (.c (.str [123])))]) <|
    .one none (.tk 52 (.t 54)) <|
    .nil) <|
  .cond (.t 52) (.reg <|
    .one none (.tk 8 (.c (.int .i64 6))) <|
    .one none (.tk 9 (.c (.str [125]))) <|
    .nil) <|
  .seq (.reg <|
    .one none (.mv 20 (.t 0)) <|
    .one none (.mv 21 (.t 1)) <|
    .one none (.ca (some 22) (.c (.clo 173 [] [])) [(false, (.t 20)), (false, (.t 21))]) <|
    .one none (.mv 19 (.t 22)) <|
    .one none (.ex 23 (.t 19) 0) <|
    .one none (.ex 24 (.t 19) 1) <|
    .one none (.tk 10 (.t 23)) <|
    .one none (.tk 11 (.t 24)) <|
    .nil) <|
  .seq (.reg <|
    .one none (.mv 25 (.t 0)) <|
    .one none (.mv 26 (.t 10)) <|
    .one none (.mv 27 (.t 11)) <|
    .one none (.ld 28 (some 3) (.t 7)) <|
    .one none (.ca (some 29) (.c (.clo 174 [] [])) [(false, (.t 25)), (false, (.t 26)), (false, (.t 27)), (false, (.t 28))]) <|
    .one none (.st 4 (.t 6) (.t 29)) <|
    .nil) <|
  .ret) <|
 .seq (.seq (.reg <|
    .one none (.mv 55 (.t 2)) <|
    .one none (.bi 56 .eql (.t 55) (.c (.int .i64 64))) <|
    .nil) <|
  .cond (.t 56) (.seq (.reg <|
     .one none (.mv 57 (.t 0)) <|
     .one none (.mv 58 (.t 0)) <|
     .one none (.ca (some 59) (.c (.clo 121 [] [])) [(false, (.t 58))]) <|
     .one none (.ca (some 60) (.c (.clo 175 [] [])) [(false, (.t 57)), (false, (.c (.int .i64 10))), (false, (.t 59))]) <|
     .nil) <|
   .seq (.reg <|
     .one none (.bd 61 [(.int .i64 0), (.str []), (.str []), (.sl true [])] []) <|
     .one none (.st 4 (.t 6) (.t 61)) <|
     .nil) <|
   .ret) <|
  .skip) <|
 .seq (.reg <|
   .one none (.mv 62 (.t 0)) <|
   .one none (.mf 63 176 [(.t 62)] []) <|
   .one none (.tk 12 (.t 63)) <|
   .nil) <|
 .seq (.seq (.reg <|
    .one none (.mv 64 (.t 8)) <|
    .one none (.bi 65 .eql (.t 64) (.c (.int .i64 6))) <|
    .nil) <|
  .cond (.t 65) (.reg <|
    .one none (.mv 66 (.t 0)) <|
    .one none (.mf 67 177 [(.t 66)] []) <|
    .one none (.tk 12 (.t 67)) <|
    .nil) <|
  .skip) <|
 .seq (.reg <|
   .one none (.mv 68 (.t 8)) <|
   .one none (.fa 69 0 (.t 7)) <|
   .one none (.mv 71 (.t 0)) <|
   .one none (.mv 72 (.t 9)) <|
   .one none (.mv 73 (.t 2)) <|
   .one none (.bi 74 .add (.t 73) (.c (.int .i64 1))) <|
   .one none (.mv 75 (.t 12)) <|
   .any [
     .one none (.ld 70 none (.t 69)) <|
      .any [
        .one none (.ca (some 76) (.c (.clo 178 [] [])) [(false, (.t 71)), (false, (.t 72)), (false, (.t 74)), (false, (.t 75))]) <|
         .one none (.bd 77 [(.int .i64 0), (.str []), (.str []), (.sl true [])] [(0, 1, (.t 68)), (2, 1, (.t 70)), (3, 1, (.t 76))]) <|
         .one none (.al 13 30 [(.int .i64 0), (.str []), (.str []), (.sl true [])]) <|
         .one none (.st 4 (.t 13) (.t 77)) <|
         .nil,
        .one none (.al 13 30 [(.int .i64 0), (.str []), (.str []), (.sl true [])]) <|
         .one none (.ca (some 76) (.c (.clo 178 [] [])) [(false, (.t 71)), (false, (.t 72)), (false, (.t 74)), (false, (.t 75))]) <|
         .one none (.bd 77 [(.int .i64 0), (.str []), (.str []), (.sl true [])] [(0, 1, (.t 68)), (2, 1, (.t 70)), (3, 1, (.t 76))]) <|
         .one none (.st 4 (.t 13) (.t 77)) <|
         .nil],
     .one none (.ca (some 76) (.c (.clo 178 [] [])) [(false, (.t 71)), (false, (.t 72)), (false, (.t 74)), (false, (.t 75))]) <|
      .any [
        .one none (.ld 70 none (.t 69)) <|
         .one none (.bd 77 [(.int .i64 0), (.str []), (.str []), (.sl true [])] [(0, 1, (.t 68)), (2, 1, (.t 70)), (3, 1, (.t 76))]) <|
         .one none (.al 13 30 [(.int .i64 0), (.str []), (.str []), (.sl true [])]) <|
         .one none (.st 4 (.t 13) (.t 77)) <|
         .nil,
        .one none (.al 13 30 [(.int .i64 0), (.str []), (.str []), (.sl true [])]) <|
         .one none (.ld 70 none (.t 69)) <|
         .one none (.bd 77 [(.int .i64 0), (.str []), (.str []), (.sl true [])] [(0, 1, (.t 68)), (2, 1, (.t 70)), (3, 1, (.t 76))]) <|
         .one none (.st 4 (.t 13) (.t 77)) <|
         .nil],
     .one none (.al 13 30 [(.int .i64 0), (.str []), (.str []), (.sl true [])]) <|
      .any [
        .one none (.ld 70 none (.t 69)) <|
         .one none (.ca (some 76) (.c (.clo 178 [] [])) [(false, (.t 71)), (false, (.t 72)), (false, (.t 74)), (false, (.t 75))]) <|
         .one none (.bd 77 [(.int .i64 0), (.str []), (.str []), (.sl true [])] [(0, 1, (.t 68)), (2, 1, (.t 70)), (3, 1, (.t 76))]) <|
         .one none (.st 4 (.t 13) (.t 77)) <|
         .nil,
        .one none (.ca (some 76) (.c (.clo 178 [] [])) [(false, (.t 71)), (false, (.t 72)), (false, (.t 74)), (false, (.t 75))]) <|
         .one none (.ld 70 none (.t 69)) <|
         .one none (.bd 77 [(.int .i64 0), (.str []), (.str []), (.sl true [])] [(0, 1, (.t 68)), (2, 1, (.t 70)), (3, 1, (.t 76))]) <|
         .one none (.st 4 (.t 13) (.t 77)) <|
         .nil]]) <|
 .seq (.seq (.reg <|
    .one none (.fa 78 1 (.t 7)) <|
    .one none (.ld 79 none (.t 78)) <|
    .one none (.bi 80 .neq (.t 79) (.c (.int .i64 0))) <|
    .one none (.mv 81 (.t 80)) <|
    .one (some (81, true)) (.fa 82 1 (.t 7)) <|
    .one (some (81, true)) (.ld 83 none (.t 82)) <|
    .one (some (81, true)) (.mv 84 (.t 8)) <|
    .one (some (81, true)) (.bi 85 .neq (.t 83) (.t 84)) <|
    .one none (.pk 86 (.t 81) (.t 85) (.c (.bool false))) <|
    .nil) <|
  .cond (.t 86) (.reg <|
    .one none (.mv 87 (.t 0)) <|
    .one none (.fa 88 2 (.t 7)) <|
    .one none (.ld 89 none (.t 88)) <|
    .one none (.ca (some 90) (.c (.clo 175 [] [])) [(false, (.t 87)), (false, (.c (.int .i64 12))), (false, (.t 89))]) <|
    .nil) <|
  .skip) <|
 .seq (.reg <|
   .one none (.ld 91 (some 4) (.t 13)) <|
   .one none (.st 4 (.t 6) (.t 91)) <|
   .nil) <|
 .ret⟩
theorem has119 : Has Tryz.prog [] 119 ir119 := has_of Tryz.func119 (by kernel_rfl)
def ir120 : If := ⟨9, [.t 2],
 .seq (.reg <|
   .one none (.tk 2 (.c (.bool false))) <|
   .nil) <|
 .seq (.reg <|
   .one none (.mv 3 (.t 0)) <|
   .one none (.nc 4 (.t 3)) <|
   .one none (.fa 5 2 (.t 4)) <|
   .one none (.ld 6 (some 2) (.t 5)) <|
   .one none (.bd 7 [(.int .i64 0), (.int .i64 0)] []) <|
   .one none (.eq 8 false [1, 1] (.t 6) (.t 7)) <|
   .one none (.tk 2 (.t 8)) <|
   .nil) <|
 .ret⟩
theorem has120 : Has Tryz.prog [] 120 ir120 := has_of Tryz.func120 (by kernel_rfl)
def ir121 : If := ⟨13, [.t 2],
 .seq (.reg <|
   .one none (.tk 2 (.c (.int .i64 0))) <|
   .nil) <|
 .seq (.reg <|
   .one none (.mv 3 (.t 0)) <|
   .one none (.nc 4 (.t 3)) <|
   .one none (.fa 5 0 (.t 4)) <|
   .one none (.mv 7 (.t 0)) <|
   .one none (.nc 8 (.t 7)) <|
   .one none (.fa 9 1 (.t 8)) <|
   .any [
     .one none (.ld 6 none (.t 5)) <|
      .one none (.ld 10 none (.t 9)) <|
      .one none (.ln 11 true (.t 10)) <|
      .one none (.bi 12 .sub (.t 6) (.t 11)) <|
      .one none (.tk 2 (.t 12)) <|
      .nil,
     .one none (.ld 10 none (.t 9)) <|
      .one none (.ln 11 true (.t 10)) <|
      .one none (.ld 6 none (.t 5)) <|
      .one none (.bi 12 .sub (.t 6) (.t 11)) <|
      .one none (.tk 2 (.t 12)) <|
      .nil]) <|
 .ret⟩
theorem has121 : Has Tryz.prog [] 121 ir121 := has_of Tryz.func121 (by kernel_rfl)
def ir122 : If := ⟨19, [.t 4, .t 5],
 .seq (.reg <|
   .one none (.tk 4 (.c (.int .i64 0))) <|
   .one none (.tk 5 (.c .nili)) <|
   .nil) <|
 .seq (.reg <|
   .one none (.mv 6 (.t 0)) <|
   .one none (.ca (some 7) (.c (.clo 179 [] [])) [(false, (.t 6))]) <|
   .nil) <|
 .seq (.reg <|
   .one none (.mv 8 (.t 0)) <|
   .one none (.mv 9 (.t 0)) <|
   .one none (.nc 10 (.t 9)) <|
   .one none (.fa 11 1 (.t 10)) <|
   .one none (.lt 12 (.t 11)) <|
   .one none (.mv 13 (.t 1)) <|
   .one none (.ap 14 5 1 (.t 12) (.t 13)) <|
   .one none (.nc 15 (.t 8)) <|
   .one none (.fa 16 1 (.t 15)) <|
   .one none (.st 1 (.t 16) (.t 14)) <|
   .nil) <|
 .seq (.reg <|
   .one none (.mv 17 (.t 1)) <|
   .one none (.ln 18 true (.t 17)) <|
   .one none (.tk 4 (.t 18)) <|
   .one none (.tk 5 (.c .nili)) <|
   .nil) <|
 .ret⟩
theorem has122 : Has Tryz.prog [] 122 ir122 := has_of Tryz.func122 (by kernel_rfl)
def ir125 : If := ⟨6, [.t 2],
 .seq (.reg <|
   .one none (.bx 1 48 3 (.t 0)) <|
   .one none (.tk 2 (.c (.bool false))) <|
   .nil) <|
 .seq (.reg <|
   .one none (.ld 3 (some 3) (.t 1)) <|
   .one none (.ca (some 4) (.c (.clo 80 [] [])) [(false, (.t 3))]) <|
   .one none (.no 5 .not (.t 4)) <|
   .one none (.tk 2 (.t 5)) <|
   .nil) <|
 .ret⟩
theorem has125 : Has Tryz.prog [] 125 ir125 := has_of Tryz.func125 (by kernel_rfl)
def ir126 : If := ⟨36, [.t 2],
 .seq (.reg <|
   .one none (.tk 2 (.c (.sl true []))) <|
   .nil) <|
 .seq (.reg <|
   .one none (.tk 3 (.c (.int .i64 0))) <|
   .nil) <|
 .seq (.seq (.reg <|
    .one none (.mv 9 (.t 0)) <|
    .one none (.ln 10 false (.t 9)) <|
    .one none (.mv 11 (.c (.int .i64 0))) <|
    .nil) <|
  .block 0 <|
  .loop <|
  .seq (.reg <|
    .one none (.bi 12 .lss (.t 11) (.t 10)) <|
    .nil) <|
  .seq (.cond (.t 12) (.skip) <|
   .exit 0) <|
  .seq (.block 1 <|
   .seq (.reg <|
     .one none (.ia 13 1 (.t 9) (.t 11)) <|
     .one none (.ld 14 none (.t 13)) <|
     .one none (.tk 5 (.t 14)) <|
     .nil) <|
   .seq (.reg <|
     .one none (.mv 15 (.t 3)) <|
     .one none (.mv 16 (.t 5)) <|
     .one none (.ln 17 false (.t 16)) <|
     .one none (.bi 18 .add (.t 15) (.t 17)) <|
     .one none (.tk 3 (.t 18)) <|
     .nil) <|
   .seq (.reg <|
     .one none (.mv 19 (.t 3)) <|
     .one none (.bi 20 .lss (.t 19) (.c (.int .i64 0))) <|
     .nil) <|
   .cond (.t 20) (.reg <|
     .one none (.bad (some 21)) <|
     .one none (.bad none) <|
     .nil) <|
   .skip) <|
  .reg <|
   .one none (.bi 22 .add (.t 11) (.c (.int .i64 1))) <|
   .one none (.mv 11 (.t 22)) <|
   .nil) <|
 .seq (.reg <|
   .one none (.mv 23 (.t 3)) <|
   .one none (.ca (some 24) (.c (.clo 181 [] [])) [(false, (.c (.sl true []))), (false, (.t 23))]) <|
   .one none (.tk 6 (.t 24)) <|
   .nil) <|
 .seq (.seq (.reg <|
    .one none (.mv 25 (.t 0)) <|
    .one none (.ln 26 false (.t 25)) <|
    .one none (.mv 27 (.c (.int .i64 0))) <|
    .nil) <|
  .block 2 <|
  .loop <|
  .seq (.reg <|
    .one none (.bi 28 .lss (.t 27) (.t 26)) <|
    .nil) <|
  .seq (.cond (.t 28) (.skip) <|
   .exit 2) <|
  .seq (.block 3 <|
   .seq (.reg <|
     .one none (.ia 29 1 (.t 25) (.t 27)) <|
     .one none (.ld 30 none (.t 29)) <|
     .one none (.tk 8 (.t 30)) <|
     .nil) <|
   .reg <|
    .one none (.tk 31 (.t 6)) <|
    .one none (.mv 32 (.t 8)) <|
    .one none (.ap 33 48 3 (.t 31) (.t 32)) <|
    .one none (.tk 6 (.t 33)) <|
    .nil) <|
  .reg <|
   .one none (.bi 34 .add (.t 27) (.c (.int .i64 1))) <|
   .one none (.mv 27 (.t 34)) <|
   .nil) <|
 .seq (.reg <|
   .one none (.mv 35 (.t 6)) <|
   .one none (.tk 2 (.t 35)) <|
   .nil) <|
 .ret⟩
theorem has126 : Has Tryz.prog [] 126 ir126 := has_of Tryz.func126 (by kernel_rfl)
def ir127 : If := ⟨53, [.cell 2 (some 2), .t 3],
 .seq (.reg <|
   .one none (.al 2 153 [(.str []), (.int .i64 0)]) <|
   .one none (.tk 3 (.c (.str []))) <|
   .nil) <|
 .seq (.reg <|
   .one none (.al 4 153 [(.str []), (.int .i64 0)]) <|
   .nil) <|
 .seq (.reg <|
   .one none (.bs 12 9 1 [(.c (.str [33, 33, 110, 117, 108, 108])), (.c (.str [33, 33, 98, 111, 111, 108])), (.c (.str [33, 33, 105, 110, 116])), (.c (.str [33, 33, 115, 116, 114])), (.c (.str [33, 33, 115, 101, 113])), (.c (.str [33, 33, 109, 97, 112]))]) <|
   .one none (.tk 5 (.t 12)) <|
   .nil) <|
 .block 0 <|
 .loop <|
 .block 1 <|
 .seq (.reg <|
   .one none (.mv 14 (.t 0)) <|
   .one none (.ca (some 15) (.c (.clo 182 [] [])) [(false, (.t 14)), (false, (.c (.str [32])))]) <|
   .one none (.mv 13 (.t 15)) <|
   .one none (.ex 16 (.t 13) 0) <|
   .one none (.ex 17 (.t 13) 1) <|
   .one none (.ex 18 (.t 13) 2) <|
   .one none (.tk 6 (.t 16)) <|
   .one none (.tk 7 (.t 17)) <|
   .one none (.tk 8 (.t 18)) <|
   .nil) <|
 .seq (.seq (.reg <|
    .one none (.mv 20 (.t 6)) <|
    .one none (.ca (some 21) (.c (.clo 46 [] [])) [(false, (.t 20)), (false, (.c (.str [38])))]) <|
    .one none (.mv 19 (.t 21)) <|
    .one none (.ex 22 (.t 19) 0) <|
    .one none (.ex 23 (.t 19) 1) <|
    .one none (.tk 9 (.t 22)) <|
    .one none (.tk 10 (.t 23)) <|
    .nil) <|
  .seq (.reg <|
    .one none (.mv 24 (.t 10)) <|
    .one none (.mv 25 (.t 24)) <|
    .one (some (25, true)) (.fa 26 0 (.t 4)) <|
    .one (some (25, true)) (.ld 27 none (.t 26)) <|
    .one (some (25, true)) (.bi 28 .eql (.t 27) (.c (.str []))) <|
    .one none (.pk 29 (.t 25) (.t 28) (.c (.bool false))) <|
    .one none (.mv 30 (.t 29)) <|
    .one (some (30, true)) (.mv 31 (.t 9)) <|
    .one (some (30, true)) (.ca (some 32) (.c (.clo 104 [] [])) [(false, (.t 31))]) <|
    .one none (.pk 33 (.t 30) (.t 32) (.c (.bool false))) <|
    .nil) <|
  .cond (.t 33) (.reg <|
    .one none (.mv 34 (.t 9)) <|
    .one none (.fa 35 0 (.t 4)) <|
    .one none (.st 1 (.t 35) (.t 34)) <|
    .nil) <|
  .seq (.reg <|
    .one none (.mv 36 (.t 5)) <|
    .one none (.mv 37 (.t 6)) <|
    .one none (.ca (some 38) (.c (.clo 183 [] [])) [(false, (.t 36)), (false, (.t 37))]) <|
    .one none (.bi 39 .add (.t 38) (.c (.int .i64 1))) <|
    .one none (.tk 11 (.t 39)) <|
    .nil) <|
  .seq (.reg <|
    .one none (.mv 40 (.t 11)) <|
    .one none (.bi 41 .gtr (.t 40) (.c (.int .i64 0))) <|
    .one none (.mv 42 (.t 41)) <|
    .one (some (42, true)) (.fa 43 1 (.t 4)) <|
    .one (some (42, true)) (.ld 44 none (.t 43)) <|
    .one (some (42, true)) (.bi 45 .eql (.t 44) (.c (.int .i64 0))) <|
    .one none (.pk 46 (.t 42) (.t 45) (.c (.bool false))) <|
    .nil) <|
  .cond (.t 46) (.reg <|
    .one none (.mv 47 (.t 11)) <|
    .one none (.fa 48 1 (.t 4)) <|
    .one none (.st 1 (.t 48) (.t 47)) <|
    .nil) <|
  .seq (.reg <|
    .one none (.ld 49 (some 2) (.t 4)) <|
    .one none (.mv 50 (.t 0)) <|
    .one none (.st 2 (.t 2) (.t 49)) <|
    .one none (.tk 3 (.t 50)) <|
    .nil) <|
  .ret) <|
 .reg <|
  .one none (.mv 51 (.t 7)) <|
  .one none (.ca (some 52) (.c (.clo 47 [] [])) [(false, (.t 51)), (false, (.c (.str [32])))]) <|
  .one none (.tk 0 (.t 52)) <|
  .nil⟩
theorem has127 : Has Tryz.prog [] 127 ir127 := has_of Tryz.func127 (by kernel_rfl)
def ir128 : If := ⟨60, [.cell 6 (some 4)],
 .seq (.reg <|
   .one none (.bx 4 110 6 (.t 1)) <|
   .one none (.bx 5 153 2 (.t 2)) <|
   .one none (.al 6 30 [(.int .i64 0), (.str []), (.str []), (.sl true [])]) <|
   .nil) <|
 .seq (.seq (.reg <|
    .one none (.fa 8 4 (.t 4)) <|
    .one none (.ld 9 none (.t 8)) <|
    .one none (.ca (some 10) (.c (.clo 75 [] [])) [(false, (.t 9))]) <|
    .one none (.ln 11 false (.t 10)) <|
    .one none (.bi 12 .eql (.t 11) (.c (.int .i64 0))) <|
    .nil) <|
  .cond (.t 12) (.seq (.reg <|
     .one none (.mv 13 (.t 0)) <|
     .one none (.bd 14 [(.int .i64 0), (.str []), (.str []), (.sl true [])] [(0, 1, (.c (.int .i64 1)))]) <|
     .one none (.ld 15 (some 2) (.t 5)) <|
     .one none (.fa 16 1 (.t 4)) <|
     .one none (.ld 17 (some 3) (.t 16)) <|
     .one none (.ca (some 18) (.c (.clo 133 [] [])) [(false, (.t 13)), (false, (.t 14)), (false, (.t 15)), (false, (.t 17))]) <|
     .one none (.st 4 (.t 6) (.t 18)) <|
     .nil) <|
   .ret) <|
  .skip) <|
 .seq (.reg <|
   .one none (.mv 19 (.t 0)) <|
   .one none (.fa 20 4 (.t 4)) <|
   .one none (.ld 21 none (.t 20)) <|
   .one none (.fa 22 5 (.t 4)) <|
   .one none (.ld 23 none (.t 22)) <|
   .one none (.bi 24 .add (.t 23) (.c (.int .i64 1))) <|
   .one none (.ca (some 25) (.c (.clo 43 [] [])) [(false, (.t 19)), (false, (.t 21)), (false, (.t 24))]) <|
   .one none (.al 7 30 [(.int .i64 0), (.str []), (.str []), (.sl true [])]) <|
   .one none (.st 4 (.t 7) (.t 25)) <|
   .nil) <|
 .seq (.block 0 <|
  .seq (.reg <|
    .one none (.ld 27 (some 2) (.t 5)) <|
    .one none (.bd 28 [(.str []), (.int .i64 0)] []) <|
    .one none (.eq 29 false [2, 1] (.t 27) (.t 28)) <|
    .one none (.tk 26 (.t 29)) <|
    .nil) <|
  .cond (.t 26) (.seq (.reg <|
     .one none (.ld 30 (some 4) (.t 7)) <|
     .one none (.st 4 (.t 6) (.t 30)) <|
     .nil) <|
   .ret) <|
  .seq (.reg <|
    .one none (.fa 32 2 (.t 7)) <|
    .one none (.ld 33 none (.t 32)) <|
    .one none (.bi 34 .neq (.t 33) (.c (.str []))) <|
    .one none (.mv 35 (.t 34)) <|
    .one (some (35, false)) (.fa 36 0 (.t 7)) <|
    .one (some (35, false)) (.ld 37 none (.t 36)) <|
    .one (some (35, false)) (.bi 38 .eql (.t 37) (.c (.int .i64 7))) <|
    .one none (.pk 39 (.t 35) (.c (.bool true)) (.t 38)) <|
    .one none (.mv 40 (.t 39)) <|
    .one (some (40, false)) (.fa 41 0 (.t 7)) <|
    .one (some (40, false)) (.ld 42 none (.t 41)) <|
    .one (some (40, false)) (.bi 43 .lss (.t 42) (.c (.int .i64 5))) <|
    .one (some (40, false)) (.mv 44 (.t 43)) <|
    .one (some (44, true)) (.fa 45 1 (.t 5)) <|
    .one (some (44, true)) (.ld 46 none (.t 45)) <|
    .one (some (44, true)) (.bi 47 .neq (.t 46) (.c (.int .i64 0))) <|
    .one (some (40, false)) (.pk 48 (.t 44) (.t 47) (.c (.bool false))) <|
    .one none (.pk 49 (.t 40) (.c (.bool true)) (.t 48)) <|
    .one none (.tk 31 (.t 49)) <|
    .nil) <|
  .cond (.t 31) (.seq (.reg <|
     .one none (.mv 50 (.t 0)) <|
     .one none (.fa 51 1 (.t 4)) <|
     .one none (.ld 52 (some 3) (.t 51)) <|
     .one none (.ca (some 53) (.c (.clo 76 [] [])) [(false, (.t 50)), (false, (.c (.int .i64 3))), (false, (.t 52))]) <|
     .one none (.st 4 (.t 6) (.t 53)) <|
     .nil) <|
   .ret) <|
  .skip) <|
 .seq (.reg <|
   .one none (.mv 54 (.t 0)) <|
   .one none (.ld 55 (some 4) (.t 7)) <|
   .one none (.ld 56 (some 2) (.t 5)) <|
   .one none (.fa 57 1 (.t 4)) <|
   .one none (.ld 58 (some 3) (.t 57)) <|
   .one none (.ca (some 59) (.c (.clo 133 [] [])) [(false, (.t 54)), (false, (.t 55)), (false, (.t 56)), (false, (.t 58))]) <|
   .one none (.st 4 (.t 6) (.t 59)) <|
   .nil) <|
 .ret⟩
theorem has128 : Has Tryz.prog [] 128 ir128 := has_of Tryz.func128 (by kernel_rfl)
end Gx

/- Part Ir4. -/
open Go Go.Proofs Gx
namespace Gx
def ir129 : If := ⟨25, [.cell 2 (some 2), .t 3],
 .seq (.reg <|
   .one none (.al 2 158 [(.bool false), (.int .i64 0)]) <|
   .one none (.tk 3 (.c (.bool false))) <|
   .nil) <|
 .seq (.reg <|
   .one none (.al 4 158 [(.bool false), (.int .i64 0)]) <|
   .nil) <|
 .seq (.block 0 <|
  .seq (.reg <|
    .one none (.mv 7 (.t 0)) <|
    .one none (.ca (some 8) (.c (.clo 66 [] [])) [(false, (.t 7)), (false, (.c (.str [124])))]) <|
    .one none (.tk 6 (.t 8)) <|
    .nil) <|
  .cond (.t 6) (.skip) <|
  .seq (.reg <|
    .one none (.mv 10 (.t 0)) <|
    .one none (.ca (some 11) (.c (.clo 66 [] [])) [(false, (.t 10)), (false, (.c (.str [62])))]) <|
    .one none (.tk 9 (.t 11)) <|
    .nil) <|
  .cond (.t 9) (.reg <|
    .one none (.fa 12 0 (.t 4)) <|
    .one none (.st 1 (.t 12) (.c (.bool true))) <|
    .nil) <|
  .seq (.reg <|
    .one none (.bd 5 [(.bool false), (.int .i64 0)] []) <|
    .one none (.st 2 (.t 2) (.t 5)) <|
    .one none (.tk 3 (.c (.bool false))) <|
    .nil) <|
  .ret) <|
 .seq (.seq (.reg <|
    .one none (.mv 13 (.t 0)) <|
    .one none (.sc 14 0 (.t 13) (some (.c (.int .i64 1))) none none) <|
    .nil) <|
  .block 1 <|
  .seq (.reg <|
    .one none (.bi 17 .eql (.t 14) (.c (.str []))) <|
    .one none (.tk 16 (.t 17)) <|
    .nil) <|
  .cond (.t 16) (.skip) <|
  .seq (.reg <|
    .one none (.bi 19 .eql (.t 14) (.c (.str [45]))) <|
    .one none (.tk 18 (.t 19)) <|
    .nil) <|
  .cond (.t 18) (.reg <|
    .one none (.fa 20 1 (.t 4)) <|
    .one none (.st 1 (.t 20) (.c (.int .i64 1))) <|
    .nil) <|
  .seq (.reg <|
    .one none (.bi 22 .eql (.t 14) (.c (.str [43]))) <|
    .one none (.tk 21 (.t 22)) <|
    .nil) <|
  .cond (.t 21) (.reg <|
    .one none (.fa 23 1 (.t 4)) <|
    .one none (.st 1 (.t 23) (.c (.int .i64 2))) <|
    .nil) <|
  .seq (.reg <|
    .one none (.bd 15 [(.bool false), (.int .i64 0)] []) <|
    .one none (.st 2 (.t 2) (.t 15)) <|
    .one none (.tk 3 (.c (.bool false))) <|
    .nil) <|
  .ret) <|
 .seq (.reg <|
   .one none (.ld 24 (some 2) (.t 4)) <|
   .one none (.st 2 (.t 2) (.t 24)) <|
   .one none (.tk 3 (.c (.bool true))) <|
   .nil) <|
 .ret⟩
theorem has129 : Has Tryz.prog [] 129 ir129 := has_of Tryz.func129 (by kernel_rfl)
def ir130 : If := ⟨37, [.t 2],
 .seq (.reg <|
   .one none (.tk 2 (.c (.str []))) <|
   .nil) <|
 .seq (.seq (.reg <|
    .one none (.mv 4 (.t 0)) <|
    .one none (.ln 5 true (.t 4)) <|
    .one none (.mv 6 (.c (.int .i64 0))) <|
    .nil) <|
  .block 0 <|
  .loop <|
  .seq (.reg <|
    .one none (.bi 7 .lss (.t 6) (.t 5)) <|
    .nil) <|
  .seq (.cond (.t 7) (.skip) <|
   .exit 0) <|
  .seq (.block 1 <|
   .seq (.reg <|
     .one none (.mv 8 (.t 6)) <|
     .one none (.tk 3 (.t 8)) <|
     .nil) <|
   .seq (.reg <|
     .one none (.mv 9 (.t 0)) <|
     .one none (.mv 10 (.t 3)) <|
     .one none (.ix 11 (.t 9) (.t 10)) <|
     .one none (.bi 12 .eql (.t 11) (.c (.int .u8 35))) <|
     .one none (.mv 13 (.t 12)) <|
     .one (some (13, true)) (.mv 14 (.t 3)) <|
     .one (some (13, true)) (.bi 15 .eql (.t 14) (.c (.int .i64 0))) <|
     .one (some (13, true)) (.mv 16 (.t 15)) <|
     .one (some (16, false)) (.mv 17 (.t 0)) <|
     .one (some (16, false)) (.mv 18 (.t 3)) <|
     .one (some (16, false)) (.bi 19 .sub (.t 18) (.c (.int .i64 1))) <|
     .one (some (16, false)) (.ix 20 (.t 17) (.t 19)) <|
     .one (some (16, false)) (.bi 21 .eql (.t 20) (.c (.int .u8 32))) <|
     .one (some (13, true)) (.pk 22 (.t 16) (.c (.bool true)) (.t 21)) <|
     .one (some (13, true)) (.mv 23 (.t 22)) <|
     .one (some (23, false)) (.mv 24 (.t 0)) <|
     .one (some (23, false)) (.mv 25 (.t 3)) <|
     .one (some (23, false)) (.bi 26 .sub (.t 25) (.c (.int .i64 1))) <|
     .one (some (23, false)) (.ix 27 (.t 24) (.t 26)) <|
     .one (some (23, false)) (.bi 28 .eql (.t 27) (.c (.int .u8 9))) <|
     .one (some (13, true)) (.pk 29 (.t 23) (.c (.bool true)) (.t 28)) <|
     .one none (.pk 30 (.t 13) (.t 29) (.c (.bool false))) <|
     .nil) <|
   .cond (.t 30) (.seq (.reg <|
      .one none (.mv 31 (.t 0)) <|
      .one none (.mv 32 (.t 3)) <|
      .one none (.sc 33 0 (.t 31) none (some (.t 32)) none) <|
      .one none (.tk 0 (.t 33)) <|
      .nil) <|
    .exit 0) <|
   .skip) <|
  .reg <|
   .one none (.bi 34 .add (.t 6) (.c (.int .i64 1))) <|
   .one none (.mv 6 (.t 34)) <|
   .nil) <|
 .seq (.reg <|
   .one none (.mv 35 (.t 0)) <|
   .one none (.ca (some 36) (.c (.clo 65 [] [])) [(false, (.t 35)), (false, (.c (.str [32, 9])))]) <|
   .one none (.tk 2 (.t 36)) <|
   .nil) <|
 .ret⟩
theorem has130 : Has Tryz.prog [] 130 ir130 := has_of Tryz.func130 (by kernel_rfl)
def ir131 : If := ⟨101, [.t 6, .t 7, .cell 8 (some 2)],
 .seq (.reg <|
   .one none (.bx 4 3 1 (.t 1)) <|
   .one none (.bx 5 158 2 (.t 2)) <|
   .one none (.tk 6 (.c (.str []))) <|
   .one none (.tk 7 (.c (.int .i64 0))) <|
   .one none (.al 8 25 [(.int .i64 0), (.int .i64 0)]) <|
   .nil) <|
 .seq (.reg <|
   .one none (.mv 17 (.t 0)) <|
   .one none (.mf 18 184 [] [(.t 4)]) <|
   .one none (.ca (some 19) (.c (.clo 69 [] [])) [(false, (.t 17)), (false, (.t 18))]) <|
   .one none (.tk 9 (.t 19)) <|
   .nil) <|
 .seq (.seq (.reg <|
    .one none (.mv 20 (.t 9)) <|
    .one none (.bi 21 .lss (.t 20) (.c (.int .i64 0))) <|
    .nil) <|
  .cond (.t 21) (.reg <|
    .one none (.mv 22 (.t 0)) <|
    .one none (.ln 23 false (.t 22)) <|
    .one none (.tk 9 (.t 23)) <|
    .nil) <|
  .skip) <|
 .seq (.reg <|
   .one none (.tk 10 (.c (.int .i64 (-1)))) <|
   .one none (.tk 11 (.c (.int .i64 0))) <|
   .nil) <|
 .seq (.reg <|
   .one none (.mv 24 (.t 9)) <|
   .one none (.ms 25 9 (.str []) 16 (.t 24) (.t 24)) <|
   .one none (.tk 12 (.t 25)) <|
   .nil) <|
 .seq (.seq (.reg <|
    .one none (.mv 26 (.t 0)) <|
    .one none (.mv 27 (.t 9)) <|
    .one none (.sc 28 3 (.t 26) none (some (.t 27)) none) <|
    .one none (.ln 29 false (.t 28)) <|
    .one none (.mv 30 (.c (.int .i64 0))) <|
    .nil) <|
  .block 0 <|
  .loop <|
  .seq (.reg <|
    .one none (.bi 31 .lss (.t 30) (.t 29)) <|
    .nil) <|
  .seq (.cond (.t 31) (.skip) <|
   .exit 0) <|
  .seq (.block 1 <|
   .seq (.reg <|
     .one none (.mv 32 (.t 30)) <|
     .one none (.ia 33 3 (.t 28) (.t 30)) <|
     .one none (.ld 34 (some 3) (.t 33)) <|
     .one none (.al 14 48 [(.int .i64 0), (.str []), (.int .i64 0)]) <|
     .one none (.tk 13 (.t 32)) <|
     .one none (.st 3 (.t 14) (.t 34)) <|
     .nil) <|
   .seq (.seq (.reg <|
      .one none (.fa 35 1 (.t 14)) <|
      .one none (.ld 36 none (.t 35)) <|
      .one none (.bi 37 .eql (.t 36) (.c (.str []))) <|
      .nil) <|
    .cond (.t 37) (.exit 1) <|
    .skip) <|
   .seq (.reg <|
     .one none (.fa 38 0 (.t 14)) <|
     .one none (.ld 39 none (.t 38)) <|
     .one none (.mm 40 true (.t 39) (.c (.int .i64 0))) <|
     .one none (.tk 15 (.t 40)) <|
     .nil) <|
   .seq (.seq (.reg <|
      .one none (.mv 41 (.t 10)) <|
      .one none (.bi 42 .lss (.t 41) (.c (.int .i64 0))) <|
      .nil) <|
    .cond (.t 42) (.reg <|
      .one none (.mv 43 (.t 15)) <|
      .one none (.tk 10 (.t 43)) <|
      .nil) <|
    .skip) <|
   .seq (.seq (.reg <|
      .one none (.mv 44 (.t 15)) <|
      .one none (.mv 45 (.t 10)) <|
      .one none (.bi 46 .lss (.t 44) (.t 45)) <|
      .one none (.mv 47 (.t 46)) <|
      .one (some (47, false)) (.mv 48 (.t 15)) <|
      .one (some (47, false)) (.mv 49 (.t 10)) <|
      .one (some (47, false)) (.bi 50 .sub (.t 48) (.t 49)) <|
      .one (some (47, false)) (.bi 51 .gtr (.t 50) (.c (.int .i64 65536))) <|
      .one none (.pk 52 (.t 47) (.c (.bool true)) (.t 51)) <|
      .nil) <|
    .cond (.t 52) (.seq (.reg <|
       .one none (.fa 53 2 (.t 14)) <|
       .one none (.tk 6 (.c (.str []))) <|
       .one none (.tk 7 (.c (.int .i64 0))) <|
       .one none (.ld 54 none (.t 53)) <|
       .one none (.bd 55 [(.int .i64 0), (.int .i64 0)] [(0, 1, (.c (.int .i64 9))), (1, 1, (.t 54))]) <|
       .one none (.st 2 (.t 8) (.t 55)) <|
       .nil) <|
     .ret) <|
    .skip) <|
   .seq (.reg <|
     .one none (.mv 56 (.t 12)) <|
     .one none (.mv 57 (.t 13)) <|
     .one none (.mv 58 (.t 15)) <|
     .one none (.mv 59 (.t 10)) <|
     .one none (.bi 60 .sub (.t 58) (.t 59)) <|
     .one none (.fa 62 1 (.t 14)) <|
     .any [
       .one none (.ca (some 61) (.c (.clo 185 [] [])) [(false, (.c (.str [32]))), (false, (.t 60))]) <|
        .one none (.ld 63 none (.t 62)) <|
        .one none (.bi 64 .add (.t 61) (.t 63)) <|
        .one none (.ia 65 1 (.t 56) (.t 57)) <|
        .one none (.st 1 (.t 65) (.t 64)) <|
        .nil,
       .one none (.ld 63 none (.t 62)) <|
        .one none (.ca (some 61) (.c (.clo 185 [] [])) [(false, (.c (.str [32]))), (false, (.t 60))]) <|
        .one none (.bi 64 .add (.t 61) (.t 63)) <|
        .one none (.ia 65 1 (.t 56) (.t 57)) <|
        .one none (.st 1 (.t 65) (.t 64)) <|
        .nil]) <|
   .reg <|
    .one none (.mv 66 (.t 13)) <|
    .one none (.bi 67 .add (.t 66) (.c (.int .i64 1))) <|
    .one none (.tk 11 (.t 67)) <|
    .nil) <|
  .reg <|
   .one none (.bi 68 .add (.t 30) (.c (.int .i64 1))) <|
   .one none (.mv 30 (.t 68)) <|
   .nil) <|
 .seq (.reg <|
   .one none (.mv 69 (.t 12)) <|
   .one none (.mv 70 (.t 11)) <|
   .one none (.sc 71 1 (.t 69) none (some (.t 70)) none) <|
   .one none (.ca (some 72) (.c (.clo 186 [] [])) [(false, (.t 71))]) <|
   .one none (.tk 16 (.t 72)) <|
   .nil) <|
 .seq (.seq (.reg <|
    .one none (.fa 73 0 (.t 5)) <|
    .one none (.ld 74 none (.t 73)) <|
    .one none (.no 75 .not (.t 74)) <|
    .nil) <|
  .cond (.t 75) (.reg <|
    .one none (.mv 76 (.t 12)) <|
    .one none (.mv 77 (.t 11)) <|
    .one none (.sc 78 1 (.t 76) none (some (.t 77)) none) <|
    .one none (.ca (some 79) (.c (.clo 187 [] [])) [(false, (.t 78)), (false, (.c (.str [10])))]) <|
    .one none (.tk 16 (.t 79)) <|
    .nil) <|
  .skip) <|
 .seq (.seq (.reg <|
    .one none (.fa 80 1 (.t 5)) <|
    .one none (.ld 81 none (.t 80)) <|
    .one none (.bi 82 .neq (.t 81) (.c (.int .i64 1))) <|
    .one none (.mv 83 (.t 82)) <|
    .one (some (83, true)) (.mv 84 (.t 11)) <|
    .one (some (83, true)) (.bi 85 .gtr (.t 84) (.c (.int .i64 0))) <|
    .one none (.pk 86 (.t 83) (.t 85) (.c (.bool false))) <|
    .nil) <|
  .cond (.t 86) (.reg <|
    .one none (.mv 87 (.t 16)) <|
    .one none (.bi 88 .add (.t 87) (.c (.str [10]))) <|
    .one none (.tk 16 (.t 88)) <|
    .nil) <|
  .skip) <|
 .seq (.seq (.reg <|
    .one none (.fa 89 1 (.t 5)) <|
    .one none (.ld 90 none (.t 89)) <|
    .one none (.bi 91 .eql (.t 90) (.c (.int .i64 2))) <|
    .nil) <|
  .cond (.t 91) (.reg <|
    .one none (.mv 92 (.t 16)) <|
    .one none (.mv 93 (.t 9)) <|
    .one none (.mv 94 (.t 11)) <|
    .one none (.bi 95 .sub (.t 93) (.t 94)) <|
    .one none (.ca (some 96) (.c (.clo 185 [] [])) [(false, (.c (.str [10]))), (false, (.t 95))]) <|
    .one none (.bi 97 .add (.t 92) (.t 96)) <|
    .one none (.tk 16 (.t 97)) <|
    .nil) <|
  .skip) <|
 .seq (.reg <|
   .one none (.mv 98 (.t 16)) <|
   .one none (.mv 99 (.t 9)) <|
   .one none (.bd 100 [(.int .i64 0), (.int .i64 0)] []) <|
   .one none (.tk 6 (.t 98)) <|
   .one none (.tk 7 (.t 99)) <|
   .one none (.st 2 (.t 8) (.t 100)) <|
   .nil) <|
 .ret⟩
theorem has131 : Has Tryz.prog [] 131 ir131 := has_of Tryz.func131 (by kernel_rfl)
def ir132 : If := ⟨14, [],
 .seq (.reg <|
   .one none (.mv 4 (.t 1)) <|
   .one none (.ca (some 5) (.c (.clo 75 [] [])) [(false, (.t 4))]) <|
   .one none (.tk 1 (.t 5)) <|
   .nil) <|
 .seq (.reg <|
   .one none (.mv 6 (.t 1)) <|
   .one none (.ln 7 false (.t 6)) <|
   .one none (.bi 8 .gtr (.t 7) (.c (.int .i64 0))) <|
   .nil) <|
 .cond (.t 8) (.reg <|
   .one none (.mv 9 (.t 0)) <|
   .one none (.mv 10 (.t 1)) <|
   .one none (.ia 11 3 (.t 10) (.c (.int .i64 0))) <|
   .one none (.ld 12 (some 3) (.t 11)) <|
   .one none (.ca (some 13) (.c (.clo 76 [] [])) [(false, (.t 9)), (false, (.c (.int .i64 3))), (false, (.t 12))]) <|
   .nil) <|
 .skip⟩
theorem has132 : Has Tryz.prog [] 132 ir132 := has_of Tryz.func132 (by kernel_rfl)
def ir133 : If := ⟨35, [.cell 8 (some 4)],
 .seq (.reg <|
   .one none (.bx 5 30 4 (.t 1)) <|
   .one none (.bx 6 153 2 (.t 2)) <|
   .one none (.bx 7 48 3 (.t 3)) <|
   .one none (.al 8 30 [(.int .i64 0), (.str []), (.str []), (.sl true [])]) <|
   .nil) <|
 .seq (.reg <|
   .one none (.fa 9 0 (.t 6)) <|
   .one none (.ld 10 none (.t 9)) <|
   .one none (.fa 11 2 (.t 5)) <|
   .one none (.st 1 (.t 11) (.t 10)) <|
   .nil) <|
 .seq (.seq (.reg <|
    .one none (.fa 12 1 (.t 6)) <|
    .one none (.ld 13 none (.t 12)) <|
    .one none (.bi 14 .eql (.t 13) (.c (.int .i64 4))) <|
    .one none (.mv 15 (.t 14)) <|
    .one (some (15, true)) (.fa 16 0 (.t 5)) <|
    .one (some (15, true)) (.ld 17 none (.t 16)) <|
    .one (some (15, true)) (.bi 18 .eql (.t 17) (.c (.int .i64 1))) <|
    .one none (.pk 19 (.t 15) (.t 18) (.c (.bool false))) <|
    .nil) <|
  .cond (.t 19) (.reg <|
    .one none (.fa 20 0 (.t 5)) <|
    .one none (.st 1 (.t 20) (.c (.int .i64 4))) <|
    .nil) <|
  .skip) <|
 .seq (.seq (.reg <|
    .one none (.fa 21 1 (.t 6)) <|
    .one none (.ld 22 none (.t 21)) <|
    .one none (.bi 23 .neq (.t 22) (.c (.int .i64 0))) <|
    .one none (.mv 24 (.t 23)) <|
    .one (some (24, true)) (.fa 25 1 (.t 6)) <|
    .one (some (24, true)) (.ld 26 none (.t 25)) <|
    .one (some (24, true)) (.fa 27 0 (.t 5)) <|
    .one (some (24, true)) (.ld 28 none (.t 27)) <|
    .one (some (24, true)) (.bi 29 .neq (.t 26) (.t 28)) <|
    .one none (.pk 30 (.t 24) (.t 29) (.c (.bool false))) <|
    .nil) <|
  .cond (.t 30) (.seq (.reg <|
     .one none (.mv 31 (.t 0)) <|
     .one none (.ld 32 (some 3) (.t 7)) <|
     .one none (.ca (some 33) (.c (.clo 76 [] [])) [(false, (.t 31)), (false, (.c (.int .i64 12))), (false, (.t 32))]) <|
     .one none (.st 4 (.t 8) (.t 33)) <|
     .nil) <|
   .ret) <|
  .skip) <|
 .seq (.reg <|
   .one none (.ld 34 (some 4) (.t 5)) <|
   .one none (.st 4 (.t 8) (.t 34)) <|
   .nil) <|
 .ret⟩
theorem has133 : Has Tryz.prog [] 133 ir133 := has_of Tryz.func133 (by kernel_rfl)
def ir134 : If := ⟨45, [.cell 6 (some 4)],
 .seq (.reg <|
   .one none (.bx 5 48 3 (.t 2)) <|
   .one none (.al 6 30 [(.int .i64 0), (.str []), (.str []), (.sl true [])]) <|
   .nil) <|
 .seq (.reg <|
   .one none (.mv 12 (.t 1)) <|
   .one none (.ca (some 13) (.c (.clo 67 [] [])) [(false, (.t 12)), (false, (.c (.bool false)))]) <|
   .one none (.mv 11 (.t 13)) <|
   .one none (.ex 14 (.t 11) 0) <|
   .one none (.ex 15 (.t 11) 1) <|
   .one none (.ex 16 (.t 11) 2) <|
   .one none (.al 7 30 [(.int .i64 0), (.str []), (.str []), (.sl true [])]) <|
   .one none (.al 9 25 [(.int .i64 0), (.int .i64 0)]) <|
   .one none (.st 4 (.t 7) (.t 14)) <|
   .one none (.tk 8 (.t 15)) <|
   .one none (.st 2 (.t 9) (.t 16)) <|
   .nil) <|
 .seq (.seq (.reg <|
    .one none (.ld 17 (some 2) (.t 9)) <|
    .one none (.bd 18 [(.int .i64 0), (.int .i64 0)] []) <|
    .one none (.eq 19 true [1, 1] (.t 17) (.t 18)) <|
    .nil) <|
  .cond (.t 19) (.seq (.reg <|
     .one none (.mv 20 (.t 0)) <|
     .one none (.fa 21 0 (.t 9)) <|
     .one none (.ld 22 none (.t 21)) <|
     .one none (.ld 23 (some 3) (.t 5)) <|
     .one none (.ca (some 24) (.c (.clo 76 [] [])) [(false, (.t 20)), (false, (.t 22)), (false, (.t 23))]) <|
     .one none (.st 4 (.t 6) (.t 24)) <|
     .nil) <|
   .ret) <|
  .skip) <|
 .seq (.seq (.reg <|
    .one none (.mv 25 (.t 1)) <|
    .one none (.mv 26 (.t 8)) <|
    .one none (.sc 27 0 (.t 25) (some (.t 26)) none none) <|
    .one none (.tk 10 (.t 27)) <|
    .nil) <|
  .seq (.reg <|
    .one none (.mv 28 (.t 10)) <|
    .one none (.ca (some 29) (.c (.clo 150 [] [])) [(false, (.t 28)), (false, (.c (.str [32])))]) <|
    .one none (.bi 30 .neq (.t 29) (.c (.str []))) <|
    .one none (.mv 31 (.t 30)) <|
    .one (some (31, true)) (.mv 32 (.t 10)) <|
    .one (some (31, true)) (.ca (some 33) (.c (.clo 47 [] [])) [(false, (.t 32)), (false, (.c (.str [32])))]) <|
    .one (some (31, true)) (.ca (some 34) (.c (.clo 66 [] [])) [(false, (.t 33)), (false, (.c (.str [35])))]) <|
    .one (some (31, true)) (.no 35 .not (.t 34)) <|
    .one none (.pk 36 (.t 31) (.t 35) (.c (.bool false))) <|
    .one none (.mv 37 (.t 36)) <|
    .one (some (37, false)) (.mv 38 (.t 10)) <|
    .one (some (37, false)) (.ca (some 39) (.c (.clo 66 [] [])) [(false, (.t 38)), (false, (.c (.str [35])))]) <|
    .one none (.pk 40 (.t 37) (.c (.bool true)) (.t 39)) <|
    .nil) <|
  .cond (.t 40) (.seq (.reg <|
     .one none (.mv 41 (.t 0)) <|
     .one none (.ld 42 (some 3) (.t 5)) <|
     .one none (.ca (some 43) (.c (.clo 76 [] [])) [(false, (.t 41)), (false, (.c (.int .i64 3))), (false, (.t 42))]) <|
     .one none (.st 4 (.t 6) (.t 43)) <|
     .nil) <|
   .ret) <|
  .skip) <|
 .seq (.reg <|
   .one none (.ld 44 (some 4) (.t 7)) <|
   .one none (.st 4 (.t 6) (.t 44)) <|
   .nil) <|
 .ret⟩
theorem has134 : Has Tryz.prog [] 134 ir134 := has_of Tryz.func134 (by kernel_rfl)
def ir146 : If := ⟨9, [.t 4],
 .seq (.reg <|
   .one none (.tk 4 (.c (.bool false))) <|
   .nil) <|
 .seq (.reg <|
   .one none (.mv 5 (.t 0)) <|
   .one none (.mv 6 (.t 1)) <|
   .one none (.ca (some 7) (.c (.clo 196 [] [])) [(false, (.t 5)), (false, (.t 6))]) <|
   .one none (.bi 8 .geq (.t 7) (.c (.int .i64 0))) <|
   .one none (.tk 4 (.t 8)) <|
   .nil) <|
 .ret⟩
theorem has146 : Has Tryz.prog [] 146 ir146 := has_of Tryz.func146 (by kernel_rfl)
def ir147 : If := ⟨69, [.t 4, .t 5, .t 6],
 .seq (.reg <|
   .one none (.tk 4 (.c (.str []))) <|
   .one none (.tk 5 (.c (.int .i64 0))) <|
   .one none (.tk 6 (.c (.int .i64 0))) <|
   .nil) <|
 .seq (.block 0 <|
  .seq (.reg <|
    .one none (.mv 15 (.t 0)) <|
    .one none (.ix 16 (.t 15) (.c (.int .i64 0))) <|
    .one none (.mv 17 (.t 1)) <|
    .one none (.bi 18 .eql (.t 16) (.t 17)) <|
    .one none (.tk 14 (.t 18)) <|
    .nil) <|
  .cond (.t 14) (.seq (.seq (.reg <|
      .one none (.mv 19 (.t 1)) <|
      .one none (.bi 20 .eql (.t 19) (.c (.int .u8 39))) <|
      .one none (.mv 21 (.t 20)) <|
      .one (some (21, true)) (.mv 22 (.t 0)) <|
      .one (some (21, true)) (.ln 23 true (.t 22)) <|
      .one (some (21, true)) (.bi 24 .gtr (.t 23) (.c (.int .i64 1))) <|
      .one none (.pk 25 (.t 21) (.t 24) (.c (.bool false))) <|
      .one none (.mv 26 (.t 25)) <|
      .one (some (26, true)) (.mv 27 (.t 0)) <|
      .one (some (26, true)) (.ix 28 (.t 27) (.c (.int .i64 1))) <|
      .one (some (26, true)) (.mv 29 (.t 1)) <|
      .one (some (26, true)) (.bi 30 .eql (.t 28) (.t 29)) <|
      .one none (.pk 31 (.t 26) (.t 30) (.c (.bool false))) <|
      .nil) <|
    .cond (.t 31) (.seq (.reg <|
       .one none (.tk 4 (.c (.str [39]))) <|
       .one none (.tk 5 (.c (.int .i64 2))) <|
       .one none (.tk 6 (.c (.int .i64 0))) <|
       .nil) <|
     .ret) <|
    .skip) <|
   .seq (.reg <|
     .one none (.tk 4 (.c (.str []))) <|
     .one none (.tk 5 (.c (.int .i64 0))) <|
     .one none (.tk 6 (.c (.int .i64 0))) <|
     .nil) <|
   .ret) <|
  .seq (.reg <|
    .one none (.mv 33 (.t 1)) <|
    .one none (.bi 34 .eql (.t 33) (.c (.int .u8 34))) <|
    .one none (.mv 35 (.t 34)) <|
    .one (some (35, true)) (.mv 36 (.t 0)) <|
    .one (some (35, true)) (.ix 37 (.t 36) (.c (.int .i64 0))) <|
    .one (some (35, true)) (.bi 38 .eql (.t 37) (.c (.int .u8 92))) <|
    .one none (.pk 39 (.t 35) (.t 38) (.c (.bool false))) <|
    .one none (.tk 32 (.t 39)) <|
    .nil) <|
  .cond (.t 32) (.seq (.reg <|
     .one none (.mv 41 (.t 0)) <|
     .one none (.ca (some 42) (.c (.clo 197 [] [])) [(false, (.t 41))]) <|
     .one none (.mv 40 (.t 42)) <|
     .one none (.ex 43 (.t 40) 0) <|
     .one none (.ex 44 (.t 40) 1) <|
     .one none (.ex 45 (.t 40) 2) <|
     .one none (.tk 7 (.t 43)) <|
     .one none (.tk 8 (.t 44)) <|
     .one none (.tk 9 (.t 45)) <|
     .nil) <|
   .seq (.seq (.reg <|
      .one none (.mv 46 (.t 9)) <|
      .one none (.bi 47 .neq (.t 46) (.c (.int .i64 0))) <|
      .nil) <|
    .cond (.t 47) (.seq (.reg <|
       .one none (.mv 48 (.t 9)) <|
       .one none (.tk 4 (.c (.str []))) <|
       .one none (.tk 5 (.c (.int .i64 0))) <|
       .one none (.tk 6 (.t 48)) <|
       .nil) <|
     .ret) <|
    .skip) <|
   .seq (.reg <|
     .one none (.mv 50 (.t 7)) <|
     .one none (.bs 51 3 1 [(.t 50)]) <|
     .one none (.ca (some 52) (.c (.clo 198 [] [])) [(false, (.t 51))]) <|
     .one none (.mv 49 (.t 52)) <|
     .one none (.ex 53 (.t 49) 0) <|
     .one none (.ex 54 (.t 49) 1) <|
     .one none (.tk 10 (.t 53)) <|
     .one none (.tk 11 (.t 54)) <|
     .nil) <|
   .seq (.reg <|
     .one none (.mv 55 (.t 10)) <|
     .one none (.mv 56 (.t 8)) <|
     .one none (.tk 4 (.t 55)) <|
     .one none (.tk 5 (.t 56)) <|
     .one none (.tk 6 (.c (.int .i64 0))) <|
     .nil) <|
   .ret) <|
  .skip) <|
 .seq (.reg <|
   .one none (.mv 58 (.t 0)) <|
   .one none (.ca (some 59) (.c (.clo 165 [] [])) [(false, (.t 58))]) <|
   .one none (.mv 57 (.t 59)) <|
   .one none (.ex 60 (.t 57) 0) <|
   .one none (.ex 61 (.t 57) 1) <|
   .one none (.tk 12 (.t 60)) <|
   .one none (.tk 13 (.t 61)) <|
   .nil) <|
 .seq (.seq (.reg <|
    .one none (.mv 62 (.t 12)) <|
    .one none (.ca (some 63) (.c (.clo 199 [] [])) [(false, (.t 62))]) <|
    .one none (.no 64 .not (.t 63)) <|
    .nil) <|
  .cond (.t 64) (.seq (.reg <|
     .one none (.tk 4 (.c (.str []))) <|
     .one none (.tk 5 (.c (.int .i64 0))) <|
     .one none (.tk 6 (.c (.int .i64 8))) <|
     .nil) <|
   .ret) <|
  .skip) <|
 .seq (.reg <|
   .one none (.mv 65 (.t 0)) <|
   .one none (.mv 66 (.t 13)) <|
   .one none (.sc 67 0 (.t 65) none (some (.t 66)) none) <|
   .one none (.mv 68 (.t 13)) <|
   .one none (.tk 4 (.t 67)) <|
   .one none (.tk 5 (.t 68)) <|
   .one none (.tk 6 (.c (.int .i64 0))) <|
   .nil) <|
 .ret⟩
theorem has147 : Has Tryz.prog [] 147 ir147 := has_of Tryz.func147 (by kernel_rfl)
def ir148 : If := ⟨20, [.t 4],
 .seq (.reg <|
   .one none (.bx 2 9 1 (.t 0)) <|
   .one none (.bx 3 4 1 (.t 1)) <|
   .one none (.tk 4 (.c (.int .i64 0))) <|
   .nil) <|
 .seq (.reg <|
   .one none (.mf 7 200 [] [(.t 2), (.t 3)]) <|
   .one none (.tk 5 (.t 7)) <|
   .nil) <|
 .seq (.seq (.reg <|
    .one none (.ld 8 none (.t 2)) <|
    .one none (.ln 9 true (.t 8)) <|
    .one none (.mv 10 (.c (.int .i64 0))) <|
    .nil) <|
  .block 0 <|
  .loop <|
  .seq (.reg <|
    .one none (.bi 11 .lss (.t 10) (.t 9)) <|
    .nil) <|
  .seq (.cond (.t 11) (.skip) <|
   .exit 0) <|
  .seq (.block 1 <|
   .seq (.reg <|
     .one none (.mv 12 (.t 10)) <|
     .one none (.tk 6 (.t 12)) <|
     .nil) <|
   .seq (.reg <|
     .one none (.mv 13 (.t 5)) <|
     .one none (.mv 14 (.t 6)) <|
     .one none (.ca (some 15) (.t 13) [(false, (.t 14))]) <|
     .nil) <|
   .cond (.t 15) (.seq (.reg <|
      .one none (.mv 16 (.t 6)) <|
      .one none (.tk 4 (.t 16)) <|
      .nil) <|
    .ret) <|
   .skip) <|
  .reg <|
   .one none (.bi 17 .add (.t 10) (.c (.int .i64 1))) <|
   .one none (.mv 10 (.t 17)) <|
   .nil) <|
 .seq (.reg <|
   .one none (.ld 18 none (.t 2)) <|
   .one none (.ln 19 true (.t 18)) <|
   .one none (.tk 4 (.t 19)) <|
   .nil) <|
 .ret⟩
theorem has148 : Has Tryz.prog [] 148 ir148 := has_of Tryz.func148 (by kernel_rfl)
def ir151 : If := ⟨17, [.t 4],
 .seq (.reg <|
   .one none (.tk 4 (.c (.bool false))) <|
   .nil) <|
 .seq (.reg <|
   .one none (.mv 5 (.t 0)) <|
   .one none (.bi 6 .eql (.t 5) (.c (.str []))) <|
   .one none (.mv 7 (.t 6)) <|
   .one (some (7, false)) (.mv 8 (.t 0)) <|
   .one (some (7, false)) (.ix 9 (.t 8) (.c (.int .i64 0))) <|
   .one (some (7, false)) (.bi 10 .eql (.t 9) (.c (.int .u8 32))) <|
   .one none (.pk 11 (.t 7) (.c (.bool true)) (.t 10)) <|
   .one none (.mv 12 (.t 11)) <|
   .one (some (12, false)) (.mv 13 (.t 0)) <|
   .one (some (12, false)) (.mv 14 (.t 1)) <|
   .one (some (12, false)) (.ca (some 15) (.c (.clo 201 [] [])) [(false, (.t 13)), (false, (.t 14))]) <|
   .one none (.pk 16 (.t 12) (.c (.bool true)) (.t 15)) <|
   .one none (.tk 4 (.t 16)) <|
   .nil) <|
 .ret⟩
theorem has151 : Has Tryz.prog [] 151 ir151 := has_of Tryz.func151 (by kernel_rfl)
end Gx

/- Part Ir5. -/
open Go Go.Proofs Gx
namespace Gx
def ir161 : If := ⟨19, [.t 2, .cell 3 (some 2)],
 .seq (.reg <|
   .one none (.tk 2 (.c (.sl true []))) <|
   .one none (.al 3 25 [(.int .i64 0), (.int .i64 0)]) <|
   .nil) <|
 .seq (.reg <|
   .one none (.al 4 184 [(.sl true [])]) <|
   .nil) <|
 .seq (.reg <|
   .one none (.mv 7 (.t 0)) <|
   .one none (.mf 8 204 [] [(.t 4)]) <|
   .one none (.ca (some 9) (.c (.clo 112 [] [])) [(false, (.t 7)), (false, (.t 8))]) <|
   .one none (.tk 5 (.t 9)) <|
   .nil) <|
 .seq (.seq (.reg <|
    .one none (.mv 10 (.t 0)) <|
    .one none (.mv 11 (.t 5)) <|
    .one none (.ca (some 12) (.c (.clo 111 [] [])) [(false, (.t 10)), (false, (.t 11))]) <|
    .one none (.al 6 25 [(.int .i64 0), (.int .i64 0)]) <|
    .one none (.st 2 (.t 6) (.t 12)) <|
    .nil) <|
  .seq (.reg <|
    .one none (.ld 13 (some 2) (.t 6)) <|
    .one none (.bd 14 [(.int .i64 0), (.int .i64 0)] []) <|
    .one none (.eq 15 true [1, 1] (.t 13) (.t 14)) <|
    .nil) <|
  .cond (.t 15) (.seq (.reg <|
     .one none (.tk 2 (.c (.sl true []))) <|
     .one none (.ld 16 (some 2) (.t 6)) <|
     .one none (.st 2 (.t 3) (.t 16)) <|
     .nil) <|
   .ret) <|
  .skip) <|
 .seq (.reg <|
   .one none (.ld 17 none (.t 4)) <|
   .one none (.bd 18 [(.int .i64 0), (.int .i64 0)] []) <|
   .one none (.tk 2 (.t 17)) <|
   .one none (.st 2 (.t 3) (.t 18)) <|
   .nil) <|
 .ret⟩
theorem has161 : Has Tryz.prog [] 161 ir161 := has_of Tryz.func161 (by kernel_rfl)
def ir162 : If := ⟨25, [],
 .block 0 <|
 .loop <|
 .seq (.seq (.reg <|
    .one none (.ld 5 none (.t 1)) <|
    .one none (.ln 6 true (.t 5)) <|
    .one none (.bi 7 .gtr (.t 6) (.c (.int .i64 0))) <|
    .nil) <|
  .cond (.t 7) (.skip) <|
  .exit 0) <|
 .block 1 <|
 .seq (.reg <|
   .one none (.tk 3 (.c (.str []))) <|
   .nil) <|
 .seq (.seq (.reg <|
    .one none (.ld 8 none (.t 1)) <|
    .one none (.ca (some 9) (.c (.clo 64 [] [])) [(false, (.t 8)), (false, (.c (.int .u8 10)))]) <|
    .one none (.tk 4 (.t 9)) <|
    .nil) <|
  .seq (.reg <|
    .one none (.mv 10 (.t 4)) <|
    .one none (.bi 11 .geq (.t 10) (.c (.int .i64 0))) <|
    .nil) <|
  .cond (.t 11) (.reg <|
    .one none (.mv 13 (.t 4)) <|
    .one none (.bi 14 .add (.t 13) (.c (.int .i64 1))) <|
    .one none (.mv 17 (.t 4)) <|
    .one none (.bi 18 .add (.t 17) (.c (.int .i64 1))) <|
    .any [
      .one none (.ld 12 none (.t 1)) <|
       .one none (.sc 15 0 (.t 12) none (some (.t 14)) none) <|
       .any [
         .one none (.ld 16 none (.t 1)) <|
          .one none (.sc 19 0 (.t 16) (some (.t 18)) none none) <|
          .one none (.tk 3 (.t 15)) <|
          .one none (.st 1 (.t 1) (.t 19)) <|
          .nil,
         .one none (.tk 3 (.t 15)) <|
          .one none (.ld 16 none (.t 1)) <|
          .one none (.sc 19 0 (.t 16) (some (.t 18)) none none) <|
          .one none (.st 1 (.t 1) (.t 19)) <|
          .nil],
      .one none (.ld 16 none (.t 1)) <|
       .one none (.sc 19 0 (.t 16) (some (.t 18)) none none) <|
       .one none (.ld 12 none (.t 1)) <|
       .one none (.sc 15 0 (.t 12) none (some (.t 14)) none) <|
       .one none (.tk 3 (.t 15)) <|
       .one none (.st 1 (.t 1) (.t 19)) <|
       .nil]) <|
  .reg <|
   .one none (.ld 20 none (.t 1)) <|
   .one none (.tk 3 (.t 20)) <|
   .one none (.st 1 (.t 1) (.c (.str []))) <|
   .nil) <|
 .seq (.reg <|
   .one none (.mv 21 (.t 0)) <|
   .one none (.mv 22 (.t 3)) <|
   .one none (.ca (some 23) (.t 21) [(false, (.t 22))]) <|
   .one none (.no 24 .not (.t 23)) <|
   .nil) <|
 .cond (.t 24) (.ret) <|
 .skip⟩
theorem has162 : Has Tryz.prog [] 162 ir162 := has_of Tryz.func162 (by kernel_rfl)
def ir163 : If := ⟨18, [.t 4, .t 5],
 .seq (.reg <|
   .one none (.tk 4 (.c (.str []))) <|
   .one none (.tk 5 (.c (.bool false))) <|
   .nil) <|
 .seq (.seq (.reg <|
    .one none (.mv 6 (.t 0)) <|
    .one none (.mv 7 (.t 1)) <|
    .one none (.ca (some 8) (.c (.clo 205 [] [])) [(false, (.t 6)), (false, (.t 7))]) <|
    .one none (.no 9 .not (.t 8)) <|
    .nil) <|
  .cond (.t 9) (.seq (.reg <|
     .one none (.mv 10 (.t 0)) <|
     .one none (.tk 4 (.t 10)) <|
     .one none (.tk 5 (.c (.bool false))) <|
     .nil) <|
   .ret) <|
  .skip) <|
 .seq (.reg <|
   .one none (.mv 11 (.t 0)) <|
   .one none (.mv 12 (.t 0)) <|
   .one none (.ln 13 true (.t 12)) <|
   .one none (.mv 14 (.t 1)) <|
   .one none (.ln 15 true (.t 14)) <|
   .one none (.bi 16 .sub (.t 13) (.t 15)) <|
   .one none (.sc 17 0 (.t 11) none (some (.t 16)) none) <|
   .one none (.tk 4 (.t 17)) <|
   .one none (.tk 5 (.c (.bool true))) <|
   .nil) <|
 .ret⟩
theorem has163 : Has Tryz.prog [] 163 ir163 := has_of Tryz.func163 (by kernel_rfl)
def ir164 : If := ⟨16, [.t 4],
 .seq (.reg <|
   .one none (.tk 4 (.c (.str []))) <|
   .nil) <|
 .seq (.seq (.reg <|
    .one none (.mv 5 (.t 0)) <|
    .one none (.mv 6 (.t 1)) <|
    .one none (.ca (some 7) (.c (.clo 205 [] [])) [(false, (.t 5)), (false, (.t 6))]) <|
    .nil) <|
  .cond (.t 7) (.seq (.reg <|
     .one none (.mv 8 (.t 0)) <|
     .one none (.mv 9 (.t 0)) <|
     .one none (.ln 10 true (.t 9)) <|
     .one none (.mv 11 (.t 1)) <|
     .one none (.ln 12 true (.t 11)) <|
     .one none (.bi 13 .sub (.t 10) (.t 12)) <|
     .one none (.sc 14 0 (.t 8) none (some (.t 13)) none) <|
     .one none (.tk 4 (.t 14)) <|
     .nil) <|
   .ret) <|
  .skip) <|
 .seq (.reg <|
   .one none (.mv 15 (.t 0)) <|
   .one none (.tk 4 (.t 15)) <|
   .nil) <|
 .ret⟩
theorem has164 : Has Tryz.prog [] 164 ir164 := has_of Tryz.func164 (by kernel_rfl)
def ir165 : If := ⟨21, [.t 2, .t 3],
 .seq (.reg <|
   .one none (.tk 2 (.c (.int .i64 0))) <|
   .one none (.tk 3 (.c (.int .i64 0))) <|
   .nil) <|
 .seq (.reg <|
   .one none (.mv 7 (.t 0)) <|
   .one none (.ca (some 8) (.c (.clo 145 [] [])) [(false, (.t 7))]) <|
   .one none (.mv 6 (.t 8)) <|
   .one none (.ex 9 (.t 6) 0) <|
   .one none (.ex 10 (.t 6) 1) <|
   .one none (.tk 4 (.t 9)) <|
   .one none (.tk 5 (.t 10)) <|
   .nil) <|
 .seq (.seq (.reg <|
    .one none (.mv 11 (.t 4)) <|
    .one none (.bi 12 .eql (.t 11) (.c (.int .i32 65533))) <|
    .one none (.mv 13 (.t 12)) <|
    .one (some (13, true)) (.mv 14 (.t 5)) <|
    .one (some (13, true)) (.bi 15 .lss (.t 14) (.c (.int .i64 3))) <|
    .one none (.pk 16 (.t 13) (.t 15) (.c (.bool false))) <|
    .nil) <|
  .cond (.t 16) (.seq (.reg <|
     .one none (.mv 17 (.t 5)) <|
     .one none (.tk 2 (.c (.int .i64 (-1)))) <|
     .one none (.tk 3 (.t 17)) <|
     .nil) <|
   .ret) <|
  .skip) <|
 .seq (.reg <|
   .one none (.mv 18 (.t 4)) <|
   .one none (.cv 19 (.ints .i64) (.t 18)) <|
   .one none (.mv 20 (.t 5)) <|
   .one none (.tk 2 (.t 19)) <|
   .one none (.tk 3 (.t 20)) <|
   .nil) <|
 .ret⟩
theorem has165 : Has Tryz.prog [] 165 ir165 := has_of Tryz.func165 (by kernel_rfl)
def ir168 : If := ⟨14, [],
 .reg <|
  .one none (.mv 4 (.t 0)) <|
  .one none (.mv 5 (.t 0)) <|
  .one none (.nc 6 (.t 5)) <|
  .one none (.fa 7 1 (.t 6)) <|
  .one none (.ld 8 none (.t 7)) <|
  .one none (.mv 9 (.t 1)) <|
  .one none (.sc 10 0 (.t 8) (some (.t 9)) none none) <|
  .one none (.ca (some 11) (.c (.clo 47 [] [])) [(false, (.t 10)), (false, (.c (.str [32])))]) <|
  .one none (.nc 12 (.t 4)) <|
  .one none (.fa 13 1 (.t 12)) <|
  .one none (.st 1 (.t 13) (.t 11)) <|
  .nil⟩
theorem has168 : Has Tryz.prog [] 168 ir168 := has_of Tryz.func168 (by kernel_rfl)
def ir169 : If := ⟨67, [.cell 4 (some 3)],
 .seq (.reg <|
   .one none (.al 4 192 [(.str []), (.int .i64 0), (.int .i64 0)]) <|
   .nil) <|
 .seq (.reg <|
   .one none (.al 5 192 [(.str []), (.int .i64 0), (.int .i64 0)]) <|
   .nil) <|
 .seq (.block 0 <|
  .loop <|
  .seq (.seq (.reg <|
     .one none (.mv 6 (.t 0)) <|
     .one none (.ca (some 7) (.c (.clo 120 [] [])) [(false, (.t 6))]) <|
     .nil) <|
   .cond (.t 7) (.skip) <|
   .exit 0) <|
  .block 1 <|
  .seq (.block 2 <|
   .seq (.reg <|
     .one none (.fa 10 0 (.t 5)) <|
     .one none (.ld 11 none (.t 10)) <|
     .one none (.bi 12 .eql (.t 11) (.c (.str []))) <|
     .one none (.mv 13 (.t 12)) <|
     .one (some (13, true)) (.mv 14 (.t 0)) <|
     .one (some (13, true)) (.ca (some 15) (.c (.clo 170 [] [])) [(false, (.t 14)), (false, (.c (.str [38])))]) <|
     .one none (.pk 16 (.t 13) (.t 15) (.c (.bool false))) <|
     .one none (.tk 9 (.t 16)) <|
     .nil) <|
   .cond (.t 9) (.seq (.reg <|
      .one none (.mv 17 (.t 0)) <|
      .one none (.mv 18 (.t 0)) <|
      .one none (.nc 19 (.t 18)) <|
      .one none (.fa 20 1 (.t 19)) <|
      .one none (.ld 21 none (.t 20)) <|
      .one none (.sc 22 0 (.t 21) (some (.c (.int .i64 1))) none none) <|
      .one none (.nc 23 (.t 17)) <|
      .one none (.fa 24 1 (.t 23)) <|
      .one none (.st 1 (.t 24) (.t 22)) <|
      .nil) <|
    .reg <|
     .one none (.mv 25 (.t 0)) <|
     .one none (.ca (some 26) (.c (.clo 172 [] [])) [(false, (.t 25))]) <|
     .one none (.fa 27 0 (.t 5)) <|
     .one none (.st 1 (.t 27) (.t 26)) <|
     .nil) <|
   .seq (.reg <|
     .one none (.fa 29 1 (.t 5)) <|
     .one none (.ld 30 none (.t 29)) <|
     .one none (.bi 31 .eql (.t 30) (.c (.int .i64 0))) <|
     .one none (.mv 32 (.t 31)) <|
     .one (some (32, true)) (.mv 33 (.t 0)) <|
     .one (some (32, true)) (.ca (some 34) (.c (.clo 170 [] [])) [(false, (.t 33)), (false, (.c (.str [33])))]) <|
     .one none (.pk 35 (.t 32) (.t 34) (.c (.bool false))) <|
     .one none (.tk 28 (.t 35)) <|
     .nil) <|
   .cond (.t 28) (.seq (.reg <|
      .one none (.mv 36 (.t 0)) <|
      .one none (.ca (some 37) (.c (.clo 121 [] [])) [(false, (.t 36))]) <|
      .one none (.fa 38 2 (.t 5)) <|
      .one none (.st 1 (.t 38) (.t 37)) <|
      .nil) <|
    .reg <|
     .one none (.mv 39 (.t 0)) <|
     .one none (.ca (some 40) (.c (.clo 207 [] [])) [(false, (.t 39))]) <|
     .one none (.fa 41 1 (.t 5)) <|
     .one none (.st 1 (.t 41) (.t 40)) <|
     .nil) <|
   .seq (.reg <|
     .one none (.ld 8 (some 3) (.t 5)) <|
     .one none (.st 3 (.t 4) (.t 8)) <|
     .nil) <|
   .ret) <|
  .seq (.seq (.reg <|
     .one none (.mv 42 (.t 0)) <|
     .one none (.nc 43 (.t 42)) <|
     .one none (.fa 44 1 (.t 43)) <|
     .one none (.ld 45 none (.t 44)) <|
     .one none (.bi 46 .neq (.t 45) (.c (.str []))) <|
     .one none (.mv 47 (.t 46)) <|
     .one (some (47, true)) (.mv 48 (.t 0)) <|
     .one (some (47, true)) (.ca (some 49) (.c (.clo 170 [] [])) [(false, (.t 48)), (false, (.c (.str [32])))]) <|
     .one (some (47, true)) (.no 50 .not (.t 49)) <|
     .one none (.pk 51 (.t 47) (.t 50) (.c (.bool false))) <|
     .one none (.mv 52 (.t 51)) <|
     .one (some (52, true)) (.mv 53 (.t 1)) <|
     .one (some (52, true)) (.mv 54 (.t 53)) <|
     .one (some (54, true)) (.mv 55 (.t 0)) <|
     .one (some (54, true)) (.ca (some 56) (.c (.clo 170 [] [])) [(false, (.t 55)), (false, (.c (.str [44, 91, 93, 123, 125])))]) <|
     .one (some (52, true)) (.pk 57 (.t 54) (.t 56) (.c (.bool false))) <|
     .one (some (52, true)) (.no 58 .not (.t 57)) <|
     .one none (.pk 59 (.t 52) (.t 58) (.c (.bool false))) <|
     .nil) <|
   .cond (.t 59) (.reg <|
     .one none (.mv 60 (.t 0)) <|
     .one none (.mv 61 (.t 0)) <|
     .one none (.ca (some 62) (.c (.clo 121 [] [])) [(false, (.t 61))]) <|
     .one none (.ca (some 63) (.c (.clo 175 [] [])) [(false, (.t 60)), (false, (.c (.int .i64 3))), (false, (.t 62))]) <|
     .nil) <|
   .skip) <|
  .reg <|
   .one none (.mv 64 (.t 0)) <|
   .one none (.ca (some 65) (.c (.clo 168 [] [])) [(false, (.t 64)), (false, (.c (.int .i64 0)))]) <|
   .nil) <|
 .seq (.reg <|
   .one none (.ld 66 (some 3) (.t 5)) <|
   .one none (.st 3 (.t 4) (.t 66)) <|
   .nil) <|
 .ret⟩
theorem has169 : Has Tryz.prog [] 169 ir169 := has_of Tryz.func169 (by kernel_rfl)
def ir170 : If := ⟨24, [.t 4],
 .seq (.reg <|
   .one none (.tk 4 (.c (.bool false))) <|
   .nil) <|
 .seq (.reg <|
   .one none (.mv 5 (.t 0)) <|
   .one none (.ca (some 6) (.c (.clo 120 [] [])) [(false, (.t 5))]) <|
   .one none (.mv 7 (.t 6)) <|
   .one (some (7, true)) (.mv 8 (.t 0)) <|
   .one (some (7, true)) (.nc 9 (.t 8)) <|
   .one (some (7, true)) (.fa 10 1 (.t 9)) <|
   .one (some (7, true)) (.ld 11 none (.t 10)) <|
   .one (some (7, true)) (.bi 12 .neq (.t 11) (.c (.str []))) <|
   .one none (.pk 13 (.t 7) (.t 12) (.c (.bool false))) <|
   .one none (.mv 14 (.t 13)) <|
   .one (some (14, true)) (.mv 15 (.t 1)) <|
   .one (some (14, true)) (.mv 16 (.t 0)) <|
   .one (some (14, true)) (.nc 17 (.t 16)) <|
   .one (some (14, true)) (.fa 18 1 (.t 17)) <|
   .one (some (14, true)) (.ld 19 none (.t 18)) <|
   .one (some (14, true)) (.ix 20 (.t 19) (.c (.int .i64 0))) <|
   .one (some (14, true)) (.ca (some 21) (.c (.clo 64 [] [])) [(false, (.t 15)), (false, (.t 20))]) <|
   .one (some (14, true)) (.bi 22 .geq (.t 21) (.c (.int .i64 0))) <|
   .one none (.pk 23 (.t 14) (.t 22) (.c (.bool false))) <|
   .one none (.tk 4 (.t 23)) <|
   .nil) <|
 .ret⟩
theorem has170 : Has Tryz.prog [] 170 ir170 := has_of Tryz.func170 (by kernel_rfl)
def ir171 : If := ⟨17, [],
 .seq (.seq (.reg <|
    .one none (.mv 2 (.t 0)) <|
    .one none (.nc 3 (.t 2)) <|
    .one none (.fa 4 1 (.t 3)) <|
    .one none (.ld 5 none (.t 4)) <|
    .one none (.bi 6 .eql (.t 5) (.c (.str []))) <|
    .nil) <|
  .cond (.t 6) (.reg <|
    .one none (.mv 7 (.t 0)) <|
    .one none (.mv 8 (.t 0)) <|
    .one none (.nc 9 (.t 8)) <|
    .one none (.fa 10 0 (.t 9)) <|
    .one none (.ld 11 none (.t 10)) <|
    .one none (.ca (some 12) (.c (.clo 175 [] [])) [(false, (.t 7)), (false, (.c (.int .i64 4))), (false, (.t 11))]) <|
    .nil) <|
  .skip) <|
 .reg <|
  .one none (.mv 13 (.t 0)) <|
  .one none (.mv 14 (.t 0)) <|
  .one none (.ca (some 15) (.c (.clo 121 [] [])) [(false, (.t 14))]) <|
  .one none (.ca (some 16) (.c (.clo 175 [] [])) [(false, (.t 13)), (false, (.c (.int .i64 3))), (false, (.t 15))]) <|
  .nil⟩
theorem has171 : Has Tryz.prog [] 171 ir171 := has_of Tryz.func171 (by kernel_rfl)
def ir172 : If := ⟨23, [.t 2],
 .seq (.reg <|
   .one none (.tk 2 (.c (.str []))) <|
   .nil) <|
 .seq (.reg <|
   .one none (.mv 5 (.t 0)) <|
   .one none (.ca (some 6) (.c (.clo 121 [] [])) [(false, (.t 5))]) <|
   .one none (.tk 3 (.t 6)) <|
   .nil) <|
 .seq (.reg <|
   .one none (.mv 7 (.t 0)) <|
   .one none (.ca (some 8) (.c (.clo 208 [] [])) [(false, (.t 7)), (false, (.c (.str [97, 98, 99, 100, 101, 102, 103, 104, 105, 106, 107, 108, 109, 110, 111, 112, 113, 114, 115, 116, 117, 118, 119, 120, 121, 122, 65, 66, 67, 68, 69, 70, 71, 72, 73, 74, 75, 76, 77, 78, 79, 80, 81, 82, 83, 84, 85, 86, 87, 88, 89, 90, 48, 49, 50, 51, 52, 53, 54, 55, 56, 57, 45, 95])))]) <|
   .one none (.tk 4 (.t 8)) <|
   .nil) <|
 .seq (.block 0 <|
  .seq (.reg <|
    .one none (.mv 10 (.t 4)) <|
    .one none (.bi 11 .eql (.t 10) (.c (.str []))) <|
    .one none (.tk 9 (.t 11)) <|
    .nil) <|
  .cond (.t 9) (.reg <|
    .one none (.mv 12 (.t 0)) <|
    .one none (.ca (some 13) (.c (.clo 171 [] [])) [(false, (.t 12))]) <|
    .nil) <|
  .seq (.reg <|
    .one none (.mv 15 (.t 4)) <|
    .one none (.ln 16 true (.t 15)) <|
    .one none (.bi 17 .gtr (.t 16) (.c (.int .i64 32))) <|
    .one none (.tk 14 (.t 17)) <|
    .nil) <|
  .cond (.t 14) (.reg <|
    .one none (.mv 18 (.t 0)) <|
    .one none (.mv 19 (.t 3)) <|
    .one none (.bi 20 .add (.t 19) (.c (.int .i64 32))) <|
    .one none (.ca (some 21) (.c (.clo 175 [] [])) [(false, (.t 18)), (false, (.c (.int .i64 3))), (false, (.t 20))]) <|
    .nil) <|
  .skip) <|
 .seq (.reg <|
   .one none (.mv 22 (.t 4)) <|
   .one none (.tk 2 (.t 22)) <|
   .nil) <|
 .ret⟩
theorem has172 : Has Tryz.prog [] 172 ir172 := has_of Tryz.func172 (by kernel_rfl)
def ir173 : If := ⟨68, [.t 4, .t 5],
 .seq (.reg <|
   .one none (.tk 4 (.c (.str []))) <|
   .one none (.tk 5 (.c (.bool false))) <|
   .nil) <|
 .seq (.seq (.reg <|
    .one none (.mv 11 (.t 0)) <|
    .one none (.ca (some 12) (.c (.clo 120 [] [])) [(false, (.t 11))]) <|
    .one none (.no 13 .not (.t 12)) <|
    .nil) <|
  .cond (.t 13) (.seq (.reg <|
     .one none (.tk 4 (.c (.str []))) <|
     .one none (.tk 5 (.c (.bool false))) <|
     .nil) <|
   .ret) <|
  .skip) <|
 .seq (.seq (.reg <|
    .one none (.mv 14 (.t 0)) <|
    .one none (.ca (some 15) (.c (.clo 170 [] [])) [(false, (.t 14)), (false, (.c (.str [39, 34])))]) <|
    .nil) <|
  .cond (.t 15) (.seq (.reg <|
     .one none (.mv 17 (.t 0)) <|
     .one none (.nc 18 (.t 17)) <|
     .one none (.fa 19 1 (.t 18)) <|
     .one none (.ld 20 none (.t 19)) <|
     .one none (.ca (some 21) (.c (.clo 91 [] [])) [(false, (.t 20))]) <|
     .one none (.mv 16 (.t 21)) <|
     .one none (.ex 22 (.t 16) 0) <|
     .one none (.ex 23 (.t 16) 1) <|
     .one none (.ex 24 (.t 16) 2) <|
     .one none (.al 8 25 [(.int .i64 0), (.int .i64 0)]) <|
     .one none (.tk 6 (.t 22)) <|
     .one none (.tk 7 (.t 23)) <|
     .one none (.st 2 (.t 8) (.t 24)) <|
     .nil) <|
   .seq (.reg <|
     .one none (.mv 25 (.t 0)) <|
     .one none (.ld 26 (some 2) (.t 8)) <|
     .one none (.ca (some 27) (.c (.clo 209 [] [])) [(false, (.t 25)), (false, (.t 26))]) <|
     .nil) <|
   .seq (.reg <|
     .one none (.mv 28 (.t 0)) <|
     .one none (.mv 29 (.t 0)) <|
     .one none (.nc 30 (.t 29)) <|
     .one none (.fa 31 1 (.t 30)) <|
     .one none (.ld 32 none (.t 31)) <|
     .one none (.mv 33 (.t 7)) <|
     .one none (.sc 34 0 (.t 32) (some (.t 33)) none none) <|
     .one none (.nc 35 (.t 28)) <|
     .one none (.fa 36 1 (.t 35)) <|
     .one none (.st 1 (.t 36) (.t 34)) <|
     .nil) <|
   .seq (.reg <|
     .one none (.mv 37 (.t 6)) <|
     .one none (.tk 4 (.t 37)) <|
     .one none (.tk 5 (.c (.bool true))) <|
     .nil) <|
   .ret) <|
  .skip) <|
 .seq (.reg <|
   .one none (.mv 39 (.t 0)) <|
   .one none (.nc 40 (.t 39)) <|
   .one none (.fa 41 1 (.t 40)) <|
   .one none (.ld 42 none (.t 41)) <|
   .one none (.mv 43 (.t 1)) <|
   .one none (.ca (some 44) (.c (.clo 92 [] [])) [(false, (.t 42)), (false, (.t 43))]) <|
   .one none (.mv 38 (.t 44)) <|
   .one none (.ex 45 (.t 38) 0) <|
   .one none (.ex 46 (.t 38) 1) <|
   .one none (.tk 9 (.t 45)) <|
   .one none (.tk 10 (.t 46)) <|
   .nil) <|
 .seq (.seq (.reg <|
    .one none (.mv 47 (.t 9)) <|
    .one none (.bi 48 .neq (.t 47) (.c (.str []))) <|
    .one none (.mv 49 (.t 48)) <|
    .one (some (49, true)) (.mv 50 (.t 9)) <|
    .one (some (49, true)) (.mv 51 (.t 1)) <|
    .one (some (49, true)) (.ca (some 52) (.c (.clo 94 [] [])) [(false, (.t 50)), (false, (.t 51))]) <|
    .one (some (49, true)) (.no 53 .not (.t 52)) <|
    .one none (.pk 54 (.t 49) (.t 53) (.c (.bool false))) <|
    .nil) <|
  .cond (.t 54) (.reg <|
    .one none (.mv 55 (.t 0)) <|
    .one none (.ca (some 56) (.c (.clo 171 [] [])) [(false, (.t 55))]) <|
    .nil) <|
  .skip) <|
 .seq (.reg <|
   .one none (.mv 57 (.t 0)) <|
   .one none (.mv 58 (.t 0)) <|
   .one none (.nc 59 (.t 58)) <|
   .one none (.fa 60 1 (.t 59)) <|
   .one none (.ld 61 none (.t 60)) <|
   .one none (.mv 62 (.t 9)) <|
   .one none (.ln 63 true (.t 62)) <|
   .one none (.sc 64 0 (.t 61) (some (.t 63)) none none) <|
   .one none (.nc 65 (.t 57)) <|
   .one none (.fa 66 1 (.t 65)) <|
   .one none (.st 1 (.t 66) (.t 64)) <|
   .nil) <|
 .seq (.reg <|
   .one none (.mv 67 (.t 9)) <|
   .one none (.tk 4 (.t 67)) <|
   .one none (.tk 5 (.c (.bool false))) <|
   .nil) <|
 .ret⟩
theorem has173 : Has Tryz.prog [] 173 ir173 := has_of Tryz.func173 (by kernel_rfl)
def ir174 : If := ⟨44, [.cell 8 (some 4)],
 .seq (.reg <|
   .one none (.bx 7 192 3 (.t 3)) <|
   .one none (.al 8 30 [(.int .i64 0), (.str []), (.str []), (.sl true [])]) <|
   .nil) <|
 .seq (.reg <|
   .one none (.mv 10 (.t 1)) <|
   .one none (.ca (some 11) (.c (.clo 93 [] [])) [(false, (.t 10))]) <|
   .one none (.tk 9 (.t 11)) <|
   .nil) <|
 .seq (.block 0 <|
  .seq (.reg <|
    .one none (.fa 13 1 (.t 7)) <|
    .one none (.ld 14 none (.t 13)) <|
    .one none (.bi 15 .eql (.t 14) (.c (.int .i64 4))) <|
    .one none (.tk 12 (.t 15)) <|
    .nil) <|
  .cond (.t 12) (.reg <|
    .one none (.tk 9 (.c (.int .i64 4))) <|
    .nil) <|
  .seq (.reg <|
    .one none (.fa 17 1 (.t 7)) <|
    .one none (.ld 18 none (.t 17)) <|
    .one none (.bi 19 .neq (.t 18) (.c (.int .i64 0))) <|
    .one none (.mv 20 (.t 19)) <|
    .one (some (20, true)) (.fa 21 1 (.t 7)) <|
    .one (some (20, true)) (.ld 22 none (.t 21)) <|
    .one (some (20, true)) (.mv 23 (.t 9)) <|
    .one (some (20, true)) (.bi 24 .neq (.t 22) (.t 23)) <|
    .one none (.pk 25 (.t 20) (.t 24) (.c (.bool false))) <|
    .one none (.tk 16 (.t 25)) <|
    .nil) <|
  .cond (.t 16) (.reg <|
    .one none (.mv 26 (.t 0)) <|
    .one none (.fa 27 2 (.t 7)) <|
    .one none (.ld 28 none (.t 27)) <|
    .one none (.ca (some 29) (.c (.clo 175 [] [])) [(false, (.t 26)), (false, (.c (.int .i64 12))), (false, (.t 28))]) <|
    .nil) <|
  .seq (.reg <|
    .one none (.fa 31 1 (.t 7)) <|
    .one none (.ld 32 none (.t 31)) <|
    .one none (.bi 33 .eql (.t 32) (.c (.int .i64 0))) <|
    .one none (.mv 34 (.t 33)) <|
    .one (some (34, true)) (.mv 35 (.t 2)) <|
    .one none (.pk 36 (.t 34) (.t 35) (.c (.bool false))) <|
    .one none (.tk 30 (.t 36)) <|
    .nil) <|
  .cond (.t 30) (.reg <|
    .one none (.tk 9 (.c (.int .i64 4))) <|
    .nil) <|
  .skip) <|
 .seq (.seq (.reg <|
    .one none (.mv 37 (.t 9)) <|
    .one none (.bi 38 .eql (.t 37) (.c (.int .i64 1))) <|
    .nil) <|
  .cond (.t 38) (.reg <|
    .one none (.tk 1 (.c (.str []))) <|
    .nil) <|
  .skip) <|
 .seq (.reg <|
   .one none (.mv 39 (.t 9)) <|
   .one none (.mv 40 (.t 1)) <|
   .one none (.fa 41 0 (.t 7)) <|
   .one none (.ld 42 none (.t 41)) <|
   .one none (.bd 43 [(.int .i64 0), (.str []), (.str []), (.sl true [])] [(0, 1, (.t 39)), (1, 1, (.t 40)), (2, 1, (.t 42))]) <|
   .one none (.st 4 (.t 8) (.t 43)) <|
   .nil) <|
 .ret⟩
theorem has174 : Has Tryz.prog [] 174 ir174 := has_of Tryz.func174 (by kernel_rfl)
def ir175 : If := ⟨14, [],
 .seq (.reg <|
   .one none (.mv 6 (.t 0)) <|
   .one none (.ca (some 7) (.c (.clo 120 [] [])) [(false, (.t 6))]) <|
   .nil) <|
 .cond (.t 7) (.reg <|
   .one none (.mv 8 (.t 0)) <|
   .one none (.mv 9 (.t 1)) <|
   .one none (.mv 10 (.t 2)) <|
   .one none (.bd 11 [(.int .i64 0), (.int .i64 0)] [(0, 1, (.t 9)), (1, 1, (.t 10))]) <|
   .one none (.nc 12 (.t 8)) <|
   .one none (.fa 13 2 (.t 12)) <|
   .one none (.st 2 (.t 13) (.t 11)) <|
   .nil) <|
 .skip⟩
theorem has175 : Has Tryz.prog [] 175 ir175 := has_of Tryz.func175 (by kernel_rfl)
def ir176 : If := ⟨20, [.t 4],
 .seq (.reg <|
   .one none (.tk 4 (.c (.sl true []))) <|
   .nil) <|
 .seq (.seq (.reg <|
    .one none (.mv 5 (.t 0)) <|
    .one none (.nc 6 (.t 5)) <|
    .one none (.fa 7 1 (.t 6)) <|
    .one none (.ld 8 none (.t 7)) <|
    .one none (.bi 9 .eql (.t 8) (.c (.str []))) <|
    .one none (.mv 10 (.t 9)) <|
    .one (some (10, false)) (.mv 11 (.t 0)) <|
    .one (some (10, false)) (.ca (some 12) (.c (.clo 170 [] [])) [(false, (.t 11)), (false, (.c (.str [44])))]) <|
    .one none (.pk 13 (.t 10) (.c (.bool true)) (.t 12)) <|
    .nil) <|
  .cond (.t 13) (.reg <|
    .one none (.mv 14 (.t 0)) <|
    .one none (.ca (some 15) (.c (.clo 171 [] [])) [(false, (.t 14))]) <|
    .nil) <|
  .skip) <|
 .seq (.reg <|
   .one none (.mv 16 (.t 0)) <|
   .one none (.mv 17 (.t 1)) <|
   .one none (.ca (some 18) (.c (.clo 119 [] [])) [(false, (.t 16)), (false, (.c (.bool true))), (false, (.t 17))]) <|
   .one none (.bs 19 30 4 [(.t 18)]) <|
   .one none (.tk 4 (.t 19)) <|
   .nil) <|
 .ret⟩
theorem has176 : Has Tryz.prog [] 176 ir176 := has_of Tryz.func176 (by kernel_rfl)
def ir177 : If := ⟨57, [.t 4],
 .seq (.reg <|
   .one none (.tk 4 (.c (.sl true []))) <|
   .nil) <|
 .seq (.reg <|
   .one none (.mv 9 (.t 0)) <|
   .one none (.ca (some 10) (.c (.clo 173 [] [])) [(false, (.t 9)), (false, (.c (.bool true)))]) <|
   .one none (.mv 8 (.t 10)) <|
   .one none (.ex 11 (.t 8) 0) <|
   .one none (.ex 12 (.t 8) 1) <|
   .one none (.tk 5 (.t 11)) <|
   .one none (.tk 6 (.t 12)) <|
   .nil) <|
 .seq (.seq (.reg <|
    .one none (.mv 13 (.t 5)) <|
    .one none (.bi 14 .eql (.t 13) (.c (.str []))) <|
    .one none (.mv 15 (.t 14)) <|
    .one (some (15, true)) (.mv 16 (.t 6)) <|
    .one (some (15, true)) (.no 17 .not (.t 16)) <|
    .one none (.pk 18 (.t 15) (.t 17) (.c (.bool false))) <|
    .nil) <|
  .cond (.t 18) (.reg <|
    .one none (.mv 19 (.t 0)) <|
    .one none (.ca (some 20) (.c (.clo 171 [] [])) [(false, (.t 19))]) <|
    .nil) <|
  .skip) <|
 .seq (.reg <|
   .one none (.mv 21 (.t 0)) <|
   .one none (.mv 22 (.t 5)) <|
   .one none (.mv 23 (.t 6)) <|
   .one none (.bd 24 [(.str []), (.int .i64 0), (.int .i64 0)] []) <|
   .one none (.ca (some 25) (.c (.clo 174 [] [])) [(false, (.t 21)), (false, (.t 22)), (false, (.t 23)), (false, (.t 24))]) <|
   .one none (.al 7 30 [(.int .i64 0), (.str []), (.str []), (.sl true [])]) <|
   .one none (.st 4 (.t 7) (.t 25)) <|
   .nil) <|
 .seq (.reg <|
   .one none (.mv 26 (.t 0)) <|
   .one none (.ca (some 27) (.c (.clo 168 [] [])) [(false, (.t 26)), (false, (.c (.int .i64 0)))]) <|
   .nil) <|
 .seq (.seq (.reg <|
    .one none (.mv 28 (.t 0)) <|
    .one none (.ca (some 29) (.c (.clo 170 [] [])) [(false, (.t 28)), (false, (.c (.str [58])))]) <|
    .one none (.no 30 .not (.t 29)) <|
    .one none (.mv 31 (.t 30)) <|
    .one (some (31, false)) (.mv 32 (.t 0)) <|
    .one (some (31, false)) (.nc 33 (.t 32)) <|
    .one (some (31, false)) (.fa 34 1 (.t 33)) <|
    .one (some (31, false)) (.ld 35 none (.t 34)) <|
    .one (some (31, false)) (.ln 36 true (.t 35)) <|
    .one (some (31, false)) (.bi 37 .gtr (.t 36) (.c (.int .i64 1))) <|
    .one (some (31, false)) (.mv 38 (.t 37)) <|
    .one (some (38, true)) (.mv 39 (.t 0)) <|
    .one (some (38, true)) (.nc 40 (.t 39)) <|
    .one (some (38, true)) (.fa 41 1 (.t 40)) <|
    .one (some (38, true)) (.ld 42 none (.t 41)) <|
    .one (some (38, true)) (.ix 43 (.t 42) (.c (.int .i64 1))) <|
    .one (some (38, true)) (.ca (some 44) (.c (.clo 64 [] [])) [(false, (.c (.str [32, 44, 91, 93, 123, 125]))), (false, (.t 43))]) <|
    .one (some (38, true)) (.bi 45 .lss (.t 44) (.c (.int .i64 0))) <|
    .one (some (31, false)) (.pk 46 (.t 38) (.t 45) (.c (.bool false))) <|
    .one none (.pk 47 (.t 31) (.c (.bool true)) (.t 46)) <|
    .nil) <|
  .cond (.t 47) (.seq (.reg <|
     .one none (.mv 48 (.t 0)) <|
     .one none (.ca (some 49) (.c (.clo 171 [] [])) [(false, (.t 48))]) <|
     .nil) <|
   .seq (.reg <|
     .one none (.tk 4 (.c (.sl true []))) <|
     .nil) <|
   .ret) <|
  .skip) <|
 .seq (.reg <|
   .one none (.mv 50 (.t 0)) <|
   .one none (.ca (some 51) (.c (.clo 168 [] [])) [(false, (.t 50)), (false, (.c (.int .i64 1)))]) <|
   .nil) <|
 .seq (.reg <|
   .one none (.mv 53 (.t 0)) <|
   .one none (.mv 54 (.t 1)) <|
   .any [
     .one none (.ld 52 (some 4) (.t 7)) <|
      .one none (.ca (some 55) (.c (.clo 119 [] [])) [(false, (.t 53)), (false, (.c (.bool true))), (false, (.t 54))]) <|
      .one none (.bs 56 30 4 [(.t 52), (.t 55)]) <|
      .one none (.tk 4 (.t 56)) <|
      .nil,
     .one none (.ca (some 55) (.c (.clo 119 [] [])) [(false, (.t 53)), (false, (.c (.bool true))), (false, (.t 54))]) <|
      .one none (.ld 52 (some 4) (.t 7)) <|
      .one none (.bs 56 30 4 [(.t 52), (.t 55)]) <|
      .one none (.tk 4 (.t 56)) <|
      .nil]) <|
 .ret⟩
theorem has177 : Has Tryz.prog [] 177 ir177 := has_of Tryz.func177 (by kernel_rfl)
def ir178 : If := ⟨48, [.t 8],
 .seq (.reg <|
   .one none (.tk 8 (.c (.sl true []))) <|
   .nil) <|
 .seq (.reg <|
   .one none (.tk 9 (.c (.sl true []))) <|
   .nil) <|
 .seq (.seq (.reg <|
    .one none (.mv 10 (.t 0)) <|
    .one none (.ca (some 11) (.c (.clo 168 [] [])) [(false, (.t 10)), (false, (.c (.int .i64 1)))]) <|
    .nil) <|
  .block 0 <|
  .loop <|
  .seq (.seq (.reg <|
     .one none (.mv 12 (.t 0)) <|
     .one none (.ca (some 13) (.c (.clo 120 [] [])) [(false, (.t 12))]) <|
     .one none (.mv 14 (.t 13)) <|
     .one (some (14, true)) (.mv 15 (.t 0)) <|
     .one (some (14, true)) (.mv 16 (.t 1)) <|
     .one (some (14, true)) (.ca (some 17) (.c (.clo 170 [] [])) [(false, (.t 15)), (false, (.t 16))]) <|
     .one (some (14, true)) (.no 18 .not (.t 17)) <|
     .one none (.pk 19 (.t 14) (.t 18) (.c (.bool false))) <|
     .nil) <|
   .cond (.t 19) (.skip) <|
   .exit 0) <|
  .block 1 <|
  .seq (.reg <|
    .one none (.tk 20 (.t 9)) <|
    .one none (.mv 21 (.t 3)) <|
    .one none (.mv 22 (.t 2)) <|
    .one none (.ca (some 23) (.t 21) [(false, (.t 22))]) <|
    .one none (.ap 24 30 4 (.t 20) (.t 23)) <|
    .one none (.tk 9 (.t 24)) <|
    .nil) <|
  .seq (.reg <|
    .one none (.mv 25 (.t 0)) <|
    .one none (.ca (some 26) (.c (.clo 168 [] [])) [(false, (.t 25)), (false, (.c (.int .i64 0)))]) <|
    .nil) <|
  .seq (.reg <|
    .one none (.mv 27 (.t 0)) <|
    .one none (.ca (some 28) (.c (.clo 170 [] [])) [(false, (.t 27)), (false, (.c (.str [44])))]) <|
    .nil) <|
  .cond (.t 28) (.reg <|
    .one none (.mv 29 (.t 0)) <|
    .one none (.ca (some 30) (.c (.clo 168 [] [])) [(false, (.t 29)), (false, (.c (.int .i64 1)))]) <|
    .nil) <|
  .seq (.reg <|
    .one none (.mv 31 (.t 0)) <|
    .one none (.mv 32 (.t 1)) <|
    .one none (.ca (some 33) (.c (.clo 170 [] [])) [(false, (.t 31)), (false, (.t 32))]) <|
    .one none (.no 34 .not (.t 33)) <|
    .nil) <|
  .cond (.t 34) (.reg <|
    .one none (.mv 35 (.t 0)) <|
    .one none (.ca (some 36) (.c (.clo 171 [] [])) [(false, (.t 35))]) <|
    .nil) <|
  .skip) <|
 .seq (.seq (.reg <|
    .one none (.mv 37 (.t 0)) <|
    .one none (.ca (some 38) (.c (.clo 120 [] [])) [(false, (.t 37))]) <|
    .nil) <|
  .cond (.t 38) (.reg <|
    .one none (.mv 39 (.t 0)) <|
    .one none (.mv 40 (.t 0)) <|
    .one none (.nc 41 (.t 40)) <|
    .one none (.fa 42 1 (.t 41)) <|
    .one none (.ld 43 none (.t 42)) <|
    .one none (.sc 44 0 (.t 43) (some (.c (.int .i64 1))) none none) <|
    .one none (.nc 45 (.t 39)) <|
    .one none (.fa 46 1 (.t 45)) <|
    .one none (.st 1 (.t 46) (.t 44)) <|
    .nil) <|
  .skip) <|
 .seq (.reg <|
   .one none (.mv 47 (.t 9)) <|
   .one none (.tk 8 (.t 47)) <|
   .nil) <|
 .ret⟩
theorem has178 : Has Tryz.prog [] 178 ir178 := has_of Tryz.func178 (by kernel_rfl)
def ir182 : If := ⟨13, [.t 4, .t 5, .t 6],
 .seq (.reg <|
   .one none (.tk 4 (.c (.str []))) <|
   .one none (.tk 5 (.c (.str []))) <|
   .one none (.tk 6 (.c (.bool false))) <|
   .nil) <|
 .seq (.reg <|
   .one none (.mv 7 (.t 0)) <|
   .one none (.mv 8 (.t 1)) <|
   .one none (.ca (some 9) (.c (.clo 212 [] [])) [(false, (.t 7)), (false, (.t 8))]) <|
   .one none (.ex 10 (.t 9) 0) <|
   .one none (.ex 11 (.t 9) 1) <|
   .one none (.ex 12 (.t 9) 2) <|
   .one none (.tk 4 (.t 10)) <|
   .one none (.tk 5 (.t 11)) <|
   .one none (.tk 6 (.t 12)) <|
   .nil) <|
 .ret⟩
theorem has182 : Has Tryz.prog [] 182 ir182 := has_of Tryz.func182 (by kernel_rfl)
def ir183 : If := ⟨19, [.t 4],
 .seq (.reg <|
   .one none (.tk 4 (.c (.int .i64 0))) <|
   .nil) <|
 .seq (.seq (.reg <|
    .one none (.mv 6 (.t 0)) <|
    .one none (.ln 7 false (.t 6)) <|
    .one none (.mv 8 (.c (.int .i64 0))) <|
    .nil) <|
  .block 0 <|
  .loop <|
  .seq (.reg <|
    .one none (.bi 9 .lss (.t 8) (.t 7)) <|
    .nil) <|
  .seq (.cond (.t 9) (.skip) <|
   .exit 0) <|
  .seq (.block 1 <|
   .seq (.reg <|
     .one none (.mv 10 (.t 8)) <|
     .one none (.tk 5 (.t 10)) <|
     .nil) <|
   .seq (.reg <|
     .one none (.mv 11 (.t 1)) <|
     .one none (.mv 12 (.t 0)) <|
     .one none (.mv 13 (.t 5)) <|
     .one none (.ia 14 1 (.t 12) (.t 13)) <|
     .one none (.ld 15 none (.t 14)) <|
     .one none (.bi 16 .eql (.t 11) (.t 15)) <|
     .nil) <|
   .cond (.t 16) (.seq (.reg <|
      .one none (.mv 17 (.t 5)) <|
      .one none (.tk 4 (.t 17)) <|
      .nil) <|
    .ret) <|
   .skip) <|
  .reg <|
   .one none (.bi 18 .add (.t 8) (.c (.int .i64 1))) <|
   .one none (.mv 8 (.t 18)) <|
   .nil) <|
 .seq (.reg <|
   .one none (.tk 4 (.c (.int .i64 (-1)))) <|
   .nil) <|
 .ret⟩
theorem has183 : Has Tryz.prog [] 183 ir183 := has_of Tryz.func183 (by kernel_rfl)
def ir184 : If := ⟨14, [.t 3],
 .seq (.reg <|
   .one none (.bx 2 48 3 (.t 0)) <|
   .one none (.tk 3 (.c (.bool false))) <|
   .nil) <|
 .seq (.reg <|
   .one none (.fa 4 1 (.t 2)) <|
   .one none (.ld 5 none (.t 4)) <|
   .one none (.bi 6 .neq (.t 5) (.c (.str []))) <|
   .one none (.mv 7 (.t 6)) <|
   .one (some (7, true)) (.fa 8 0 (.t 2)) <|
   .one (some (7, true)) (.ld 9 none (.t 8)) <|
   .one (some (7, true)) (.mm 10 true (.t 9) (.c (.int .i64 0))) <|
   .one (some (7, true)) (.ld 11 none (.t 1)) <|
   .one (some (7, true)) (.bi 12 .leq (.t 10) (.t 11)) <|
   .one none (.pk 13 (.t 7) (.t 12) (.c (.bool false))) <|
   .one none (.tk 3 (.t 13)) <|
   .nil) <|
 .ret⟩
theorem has184 : Has Tryz.prog [] 184 ir184 := has_of Tryz.func184 (by kernel_rfl)
def ir186 : If := ⟨43, [.t 2],
 .seq (.reg <|
   .one none (.bx 1 57 1 (.t 0)) <|
   .one none (.tk 2 (.c (.str []))) <|
   .nil) <|
 .seq (.reg <|
   .one none (.al 3 41 [.nilf]) <|
   .one none (.st 1 (.t 3) (.c (.clo 216 [] []))) <|
   .nil) <|
 .seq (.reg <|
   .one none (.ld 6 none (.t 1)) <|
   .one none (.ln 7 false (.t 6)) <|
   .one none (.bi 8 .add (.t 7) (.c (.int .i64 1))) <|
   .one none (.ms 9 3 (.int .i64 0) 8 (.t 8) (.t 8)) <|
   .one none (.al 4 184 [(.sl true [])]) <|
   .one none (.st 1 (.t 4) (.t 9)) <|
   .nil) <|
 .seq (.reg <|
   .one none (.ld 10 none (.t 4)) <|
   .one none (.ld 11 none (.t 1)) <|
   .one none (.ln 12 false (.t 11)) <|
   .one none (.ld 13 none (.t 1)) <|
   .one none (.ln 14 false (.t 13)) <|
   .one none (.ia 15 1 (.t 10) (.t 12)) <|
   .one none (.st 1 (.t 15) (.t 14)) <|
   .nil) <|
 .seq (.seq (.reg <|
    .one none (.ld 16 none (.t 1)) <|
    .one none (.ln 17 false (.t 16)) <|
    .one none (.bi 18 .sub (.t 17) (.c (.int .i64 1))) <|
    .one none (.tk 5 (.t 18)) <|
    .nil) <|
  .block 0 <|
  .loop <|
  .seq (.seq (.reg <|
     .one none (.mv 19 (.t 5)) <|
     .one none (.bi 20 .geq (.t 19) (.c (.int .i64 0))) <|
     .nil) <|
   .cond (.t 20) (.skip) <|
   .exit 0) <|
  .seq (.block 1 <|
   .seq (.reg <|
     .one none (.ld 23 none (.t 4)) <|
     .one none (.mv 24 (.t 5)) <|
     .one none (.mv 25 (.t 5)) <|
     .one none (.ia 26 1 (.t 23) (.t 24)) <|
     .one none (.st 1 (.t 26) (.t 25)) <|
     .nil) <|
   .seq (.reg <|
     .one none (.ld 27 none (.t 1)) <|
     .one none (.mv 28 (.t 5)) <|
     .one none (.ia 29 1 (.t 27) (.t 28)) <|
     .one none (.ld 30 none (.t 29)) <|
     .one none (.bi 31 .eql (.t 30) (.c (.str []))) <|
     .nil) <|
   .cond (.t 31) (.reg <|
     .one none (.mv 33 (.t 5)) <|
     .one none (.mv 35 (.t 5)) <|
     .one none (.bi 36 .add (.t 35) (.c (.int .i64 1))) <|
     .any [
       .one none (.ld 32 none (.t 4)) <|
        .one none (.ld 34 none (.t 4)) <|
        .one none (.ia 37 1 (.t 34) (.t 36)) <|
        .one none (.ld 38 none (.t 37)) <|
        .one none (.ia 39 1 (.t 32) (.t 33)) <|
        .one none (.st 1 (.t 39) (.t 38)) <|
        .nil,
       .one none (.ld 34 none (.t 4)) <|
        .one none (.ia 37 1 (.t 34) (.t 36)) <|
        .any [
          .one none (.ld 32 none (.t 4)) <|
           .one none (.ld 38 none (.t 37)) <|
           .one none (.ia 39 1 (.t 32) (.t 33)) <|
           .one none (.st 1 (.t 39) (.t 38)) <|
           .nil,
          .one none (.ld 38 none (.t 37)) <|
           .one none (.ld 32 none (.t 4)) <|
           .one none (.ia 39 1 (.t 32) (.t 33)) <|
           .one none (.st 1 (.t 39) (.t 38)) <|
           .nil]]) <|
   .skip) <|
  .reg <|
   .one none (.mv 21 (.t 5)) <|
   .one none (.bi 22 .sub (.t 21) (.c (.int .i64 1))) <|
   .one none (.tk 5 (.t 22)) <|
   .nil) <|
 .seq (.reg <|
   .one none (.ld 40 none (.t 1)) <|
   .one none (.mf 41 218 [] [(.t 4), (.t 3), (.t 1)]) <|
   .one none (.ca (some 42) (.c (.clo 217 [] [])) [(false, (.t 40)), (false, (.t 41))]) <|
   .one none (.tk 2 (.t 42)) <|
   .nil) <|
 .ret⟩
theorem has186 : Has Tryz.prog [] 186 ir186 := has_of Tryz.func186 (by kernel_rfl)
end Gx
