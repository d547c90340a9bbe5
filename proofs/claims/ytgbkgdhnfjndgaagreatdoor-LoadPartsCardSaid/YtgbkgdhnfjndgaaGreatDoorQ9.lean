import Derived.Test.YtgbkgdhnfjndgaaGreatDoorQ8
import Derived.KernelRfl
import Derived.Test.YtgbkgdhnfjndgaaGreatDoorProg
/- A part of the proof: a calculus of values over the model, and the functions that the statement reaches, each once, in that calculus. -/
set_option linter.all false
set_option linter.unusedSimpArgs false
set_option linter.unusedVariables false

/- Part Rf. -/
/- The pieces of the functions that hold a loop over a function. -/
open Go Go.Proofs Gx
namespace Gx
noncomputable section
def Code.fst : Code → Code
  | .seq a _ => a
  | c => c
def Code.snd : Code → Code
  | .seq _ b => b
  | c => c
def Code.inB : Code → Code
  | .block _ c => c
  | c => c
def Code.rfa : Code → Code
  | .rangeFunc _ _ a _ => a
  | c => c
def Code.rfb : Code → Code
  | .rangeFunc _ _ _ b => b
  | c => c
def c62 : Code := Tryz.f62.body.getD .skip
theorem hb62 : Tryz.f62.body = some c62 := by kernel_rfl
def r62 : List Rv := [.t 2]
theorem er62 : cRes Tryz.prog 23 Tryz.f62.results.toList = some r62 := by kernel_rfl
def x62_0 : Code := (Code.fst c62)
def i62_0 : Ic :=
 .reg <|
  .one none (.tk 2 (.c (.sl true []))) <|
  .nil
theorem e62_0 : cCode Tryz.prog [] 23 x62_0 = some i62_0 := by kernel_rfl
def x62_1 : Code := (Code.fst (Code.snd c62))
def i62_1 : Ic :=
 .reg <|
  .one none (.al 3 57 [(.sl true [])]) <|
  .nil
theorem e62_1 : cCode Tryz.prog [] 23 x62_1 = some i62_1 := by kernel_rfl
def x62_2 : Code := (Code.fst (Code.fst (Code.snd (Code.snd c62))))
def i62_2 : Ic :=
 .reg <|
  .one none (.mv 7 (.t 0)) <|
  .one none (.ca (some 8) (.c (.clo 108 [] [])) [(false, (.t 7))]) <|
  .nil
theorem e62_2 : cCode Tryz.prog [] 23 x62_2 = some i62_2 := by kernel_rfl
def a62 : Code := (Code.rfa (Code.inB (Code.snd (Code.fst (Code.snd (Code.snd c62))))))
def b62 : Code := (Code.rfb (Code.inB (Code.snd (Code.fst (Code.snd (Code.snd c62))))))
def ia62 : Ic :=
 .reg <|
  .one none (.tk 4 (.t 9)) <|
  .nil
def ib62 : Ic :=
 .block 1 <|
 .seq (.seq (.reg <|
    .one none (.mv 11 (.t 4)) <|
    .one none (.ca (some 12) (.c (.clo 109 [] [])) [(false, (.t 11)), (false, (.c (.str [10])))]) <|
    .one none (.mv 10 (.t 12)) <|
    .one none (.ex 13 (.t 10) 0) <|
    .one none (.ex 14 (.t 10) 1) <|
    .one none (.tk 5 (.t 13)) <|
    .one none (.tk 6 (.t 14)) <|
    .nil) <|
  .seq (.reg <|
    .one none (.mv 15 (.t 6)) <|
    .nil) <|
  .cond (.t 15) (.reg <|
    .one none (.mv 16 (.t 5)) <|
    .one none (.ca (some 17) (.c (.clo 110 [] [])) [(false, (.t 16)), (false, (.c (.str [13])))]) <|
    .one none (.tk 4 (.t 17)) <|
    .nil) <|
  .skip) <|
 .reg <|
  .one none (.lt 18 (.t 3)) <|
  .one none (.mv 19 (.t 4)) <|
  .one none (.bs 20 9 1 [(.t 19)]) <|
  .one none (.ap 21 9 1 (.t 18) (.t 20)) <|
  .one none (.st 1 (.t 3) (.t 21)) <|
  .nil
theorem ea62 : cCode Tryz.prog [] 23 a62 = some ia62 := by kernel_rfl
theorem eb62 : cCode Tryz.prog [] 23 b62 = some ib62 := by kernel_rfl
theorem na62 : Code.nd a62 = true := by kernel_rfl
theorem nb62 : Code.nd b62 = true := by kernel_rfl
def z62 : Code := (Code.snd (Code.snd (Code.snd c62)))
def iz62 : Ic :=
 .seq (.reg <|
   .one none (.ld 22 none (.t 3)) <|
   .one none (.tk 2 (.t 22)) <|
   .nil) <|
 .ret
theorem ez62 : cCode Tryz.prog [] 23 z62 = some iz62 := by kernel_rfl
-- rf 62 2 block 0 operand 8 params #[9]
def c30 : Code := Tryz.f30.body.getD .skip
theorem hb30 : Tryz.f30.body = some c30 := by kernel_rfl
def r30 : List Rv := [.t 2]
theorem er30 : cRes Tryz.prog 15 Tryz.f30.results.toList = some r30 := by kernel_rfl
def x30_0 : Code := (Code.fst c30)
def i30_0 : Ic :=
 .reg <|
  .one none (.tk 2 (.c (.sl true []))) <|
  .nil
theorem e30_0 : cCode Tryz.prog [] 15 x30_0 = some i30_0 := by kernel_rfl
def x30_1 : Code := (Code.fst (Code.snd c30))
def i30_1 : Ic :=
 .reg <|
  .one none (.al 3 52 [(.sl true [])]) <|
  .nil
theorem e30_1 : cCode Tryz.prog [] 15 x30_1 = some i30_1 := by kernel_rfl
def x30_2 : Code := (Code.fst (Code.fst (Code.snd (Code.snd c30))))
def i30_2 : Ic :=
 .reg <|
  .one none (.mv 6 (.t 0)) <|
  .one none (.ca (some 7) (.c (.clo 40 [] [])) [(false, (.t 6))]) <|
  .nil
theorem e30_2 : cCode Tryz.prog [] 15 x30_2 = some i30_2 := by kernel_rfl
def a30 : Code := (Code.rfa (Code.inB (Code.snd (Code.fst (Code.snd (Code.snd c30))))))
def b30 : Code := (Code.rfb (Code.inB (Code.snd (Code.fst (Code.snd (Code.snd c30))))))
def ia30 : Ic :=
 .reg <|
  .one none (.tk 5 (.t 9)) <|
  .nil
def ib30 : Ic :=
 .block 1 <|
 .reg <|
  .one none (.lt 10 (.t 3)) <|
  .one none (.mv 11 (.t 5)) <|
  .one none (.bs 12 33 1 [(.t 11)]) <|
  .one none (.ap 13 33 1 (.t 10) (.t 12)) <|
  .one none (.st 1 (.t 3) (.t 13)) <|
  .nil
theorem ea30 : cCode Tryz.prog [] 15 a30 = some ia30 := by kernel_rfl
theorem eb30 : cCode Tryz.prog [] 15 b30 = some ib30 := by kernel_rfl
theorem na30 : Code.nd a30 = true := by kernel_rfl
theorem nb30 : Code.nd b30 = true := by kernel_rfl
def z30 : Code := (Code.snd (Code.snd (Code.snd c30)))
def iz30 : Ic :=
 .seq (.reg <|
   .one none (.ld 14 none (.t 3)) <|
   .one none (.tk 2 (.t 14)) <|
   .nil) <|
 .ret
theorem ez30 : cCode Tryz.prog [] 15 z30 = some iz30 := by kernel_rfl
-- rf 30 2 block 0 operand 7 params #[8, 9]
def c15 : Code := Tryz.f15.body.getD .skip
theorem hb15 : Tryz.f15.body = some c15 := by kernel_rfl
def r15 : List Rv := [.cell 2 none, .cell 3 (some 2)]
theorem er15 : cRes Tryz.prog 63 Tryz.f15.results.toList = some r15 := by kernel_rfl
def x15_0 : Code := (Code.fst c15)
def i15_0 : Ic :=
 .reg <|
  .one none (.al 2 22 [(.sl true [])]) <|
  .one none (.al 3 25 [(.int .i64 0), (.int .i64 0)]) <|
  .nil
theorem e15_0 : cCode Tryz.prog [] 63 x15_0 = some i15_0 := by kernel_rfl
def x15_1 : Code := (Code.fst (Code.snd c15))
def i15_1 : Ic :=
 .reg <|
  .one none (.mv 15 (.t 0)) <|
  .one none (.ca (some 16) (.c (.clo 38 [] [])) [(false, (.t 15))]) <|
  .one none (.mv 14 (.t 16)) <|
  .one none (.ex 17 (.t 14) 0) <|
  .one none (.ex 18 (.t 14) 1) <|
  .one none (.al 4 33 [(.sl true [])]) <|
  .one none (.al 5 25 [(.int .i64 0), (.int .i64 0)]) <|
  .one none (.st 1 (.t 4) (.t 17)) <|
  .one none (.st 2 (.t 5) (.t 18)) <|
  .nil
theorem e15_1 : cCode Tryz.prog [] 63 x15_1 = some i15_1 := by kernel_rfl
def x15_2 : Code := (Code.fst (Code.snd (Code.snd c15)))
def i15_2 : Ic :=
 .seq (.reg <|
   .one none (.ld 19 (some 2) (.t 5)) <|
   .one none (.bd 20 [(.int .i64 0), (.int .i64 0)] []) <|
   .one none (.eq 21 true [1, 1] (.t 19) (.t 20)) <|
   .nil) <|
 .cond (.t 21) (.seq (.reg <|
    .any [
      .one none (.ld 22 (some 2) (.t 5)) <|
       .one none (.st 1 (.t 2) (.c (.sl true []))) <|
       .one none (.st 2 (.t 3) (.t 22)) <|
       .nil,
      .one none (.st 1 (.t 2) (.c (.sl true []))) <|
       .one none (.ld 22 (some 2) (.t 5)) <|
       .one none (.st 2 (.t 3) (.t 22)) <|
       .nil]) <|
  .ret) <|
 .skip
theorem e15_2 : cCode Tryz.prog [] 63 x15_2 = some i15_2 := by kernel_rfl
def x15_3 : Code := (Code.fst (Code.snd (Code.snd (Code.snd c15))))
def i15_3 : Ic :=
 .reg <|
  .one none (.al 6 52 [(.sl true [])]) <|
  .nil
theorem e15_3 : cCode Tryz.prog [] 63 x15_3 = some i15_3 := by kernel_rfl
def x15_4 : Code := (Code.fst (Code.fst (Code.snd (Code.snd (Code.snd (Code.snd c15))))))
def i15_4 : Ic :=
 .reg <|
  .one none (.ld 23 none (.t 4)) <|
  .one none (.ca (some 24) (.c (.clo 40 [] [])) [(false, (.t 23))]) <|
  .nil
theorem e15_4 : cCode Tryz.prog [] 63 x15_4 = some i15_4 := by kernel_rfl
def a15 : Code := (Code.rfa (Code.inB (Code.snd (Code.fst (Code.snd (Code.snd (Code.snd (Code.snd c15))))))))
def b15 : Code := (Code.rfb (Code.inB (Code.snd (Code.fst (Code.snd (Code.snd (Code.snd (Code.snd c15))))))))
def ia15 : Ic :=
 .seq (.reg <|
   .one none (.tk 7 (.t 25)) <|
   .nil) <|
 .reg <|
  .one none (.tk 8 (.t 26)) <|
  .nil
def ib15 : Ic :=
 .block 1 <|
 .seq (.seq (.reg <|
    .one none (.ld 27 none (.t 6)) <|
    .one none (.ln 28 false (.t 27)) <|
    .one none (.bi 29 .eql (.t 28) (.c (.int .i64 64))) <|
    .nil) <|
  .cond (.t 29) (.seq (.reg <|
     .one none (.mv 31 (.t 7)) <|
     .one none (.bi 32 .sub (.t 31) (.c (.int .i64 1))) <|
     .any [
       .one none (.ld 30 none (.t 4)) <|
        .one none (.ia 33 3 (.t 30) (.t 32)) <|
        .one none (.fa 34 2 (.t 33)) <|
        .any [
          .one none (.ld 35 none (.t 34)) <|
           .one none (.bd 36 [(.int .i64 0), (.int .i64 0)] [(0, 1, (.c (.int .i64 5))), (1, 1, (.t 35))]) <|
           .one none (.st 1 (.t 2) (.c (.sl true []))) <|
           .one none (.st 2 (.t 3) (.t 36)) <|
           .nil,
          .one none (.st 1 (.t 2) (.c (.sl true []))) <|
           .one none (.ld 35 none (.t 34)) <|
           .one none (.bd 36 [(.int .i64 0), (.int .i64 0)] [(0, 1, (.c (.int .i64 5))), (1, 1, (.t 35))]) <|
           .one none (.st 2 (.t 3) (.t 36)) <|
           .nil],
       .one none (.st 1 (.t 2) (.c (.sl true []))) <|
        .one none (.ld 30 none (.t 4)) <|
        .one none (.ia 33 3 (.t 30) (.t 32)) <|
        .one none (.fa 34 2 (.t 33)) <|
        .one none (.ld 35 none (.t 34)) <|
        .one none (.bd 36 [(.int .i64 0), (.int .i64 0)] [(0, 1, (.c (.int .i64 5))), (1, 1, (.t 35))]) <|
        .one none (.st 2 (.t 3) (.t 36)) <|
        .nil]) <|
   .ret) <|
  .skip) <|
 .reg <|
  .one none (.lt 37 (.t 6)) <|
  .one none (.mv 38 (.t 8)) <|
  .one none (.bs 39 33 1 [(.t 38)]) <|
  .one none (.ap 40 33 1 (.t 37) (.t 39)) <|
  .one none (.st 1 (.t 6) (.t 40)) <|
  .nil
theorem ea15 : cCode Tryz.prog [] 63 a15 = some ia15 := by kernel_rfl
theorem eb15 : cCode Tryz.prog [] 63 b15 = some ib15 := by kernel_rfl
theorem na15 : Code.nd a15 = true := by kernel_rfl
theorem nb15 : Code.nd b15 = true := by kernel_rfl
def z15 : Code := (Code.snd (Code.snd (Code.snd (Code.snd (Code.snd c15)))))
def iz15 : Ic :=
 .seq (.reg <|
   .one none (.tk 9 (.c (.sl true []))) <|
   .nil) <|
 .seq (.seq (.reg <|
    .one none (.ld 41 none (.t 6)) <|
    .one none (.ln 42 false (.t 41)) <|
    .one none (.mv 43 (.c (.int .i64 0))) <|
    .nil) <|
  .block 2 <|
  .loop <|
  .seq (.reg <|
    .one none (.bi 44 .lss (.t 43) (.t 42)) <|
    .nil) <|
  .seq (.cond (.t 44) (.skip) <|
   .exit 2) <|
  .seq (.block 3 <|
   .seq (.reg <|
     .one none (.ia 45 1 (.t 41) (.t 43)) <|
     .one none (.ld 46 none (.t 45)) <|
     .one none (.tk 11 (.t 46)) <|
     .nil) <|
   .seq (.reg <|
     .one none (.mv 48 (.t 11)) <|
     .one none (.ca (some 49) (.c (.clo 20 [] [])) [(false, (.t 48))]) <|
     .one none (.mv 47 (.t 49)) <|
     .one none (.ex 50 (.t 47) 0) <|
     .one none (.ex 51 (.t 47) 1) <|
     .one none (.al 12 30 [(.int .i64 0), (.str []), (.str []), (.sl true [])]) <|
     .one none (.al 13 25 [(.int .i64 0), (.int .i64 0)]) <|
     .one none (.st 4 (.t 12) (.t 50)) <|
     .one none (.st 2 (.t 13) (.t 51)) <|
     .nil) <|
   .seq (.seq (.reg <|
      .one none (.ld 52 (some 2) (.t 13)) <|
      .one none (.bd 53 [(.int .i64 0), (.int .i64 0)] []) <|
      .one none (.eq 54 true [1, 1] (.t 52) (.t 53)) <|
      .nil) <|
    .cond (.t 54) (.seq (.reg <|
       .any [
         .one none (.ld 55 (some 2) (.t 13)) <|
          .one none (.st 1 (.t 2) (.c (.sl true []))) <|
          .one none (.st 2 (.t 3) (.t 55)) <|
          .nil,
         .one none (.st 1 (.t 2) (.c (.sl true []))) <|
          .one none (.ld 55 (some 2) (.t 13)) <|
          .one none (.st 2 (.t 3) (.t 55)) <|
          .nil]) <|
     .ret) <|
    .skip) <|
   .reg <|
    .one none (.tk 56 (.t 9)) <|
    .one none (.ld 57 (some 4) (.t 12)) <|
    .one none (.bs 58 30 4 [(.t 57)]) <|
    .one none (.ap 59 30 4 (.t 56) (.t 58)) <|
    .one none (.tk 9 (.t 59)) <|
    .nil) <|
  .reg <|
   .one none (.bi 60 .add (.t 43) (.c (.int .i64 1))) <|
   .one none (.mv 43 (.t 60)) <|
   .nil) <|
 .seq (.reg <|
   .one none (.mv 61 (.t 9)) <|
   .one none (.bd 62 [(.int .i64 0), (.int .i64 0)] []) <|
   .one none (.st 1 (.t 2) (.t 61)) <|
   .one none (.st 2 (.t 3) (.t 62)) <|
   .nil) <|
 .ret
theorem ez15 : cCode Tryz.prog [] 63 z15 = some iz15 := by kernel_rfl
-- rf 15 4 block 0 operand 24 params #[25, 26]
theorem c62_eq : c62 = .seq x62_0 (.seq x62_1 (.seq (.seq x62_2 (.block 0 (.rangeFunc (.tmp 8) #[9] a62 b62))) z62)) := by kernel_rfl
theorem c30_eq : c30 = .seq x30_0 (.seq x30_1 (.seq (.seq x30_2 (.block 0 (.rangeFunc (.tmp 7) #[8, 9] a30 b30))) z30)) := by kernel_rfl
theorem c15_eq : c15 = .seq x15_0 (.seq x15_1 (.seq x15_2 (.seq x15_3 (.seq (.seq x15_4 (.block 0 (.rangeFunc (.tmp 24) #[25, 26] a15 b15))) z15)))) := by kernel_rfl
def ci162 : Code := Tryz.f162.body.getD .skip
theorem hbi162 : Tryz.f162.body = some ci162 := by kernel_rfl
theorem eci162 : cCode Tryz.prog [] 25 ci162 = some ir162.body := by kernel_rfl
theorem oki162 : okY Tryz.prog 25 ci162 = true := by kernel_rfl
def ci68 : Code := Tryz.f68.body.getD .skip
theorem hbi68 : Tryz.f68.body = some ci68 := by kernel_rfl
theorem eci68 : cCode Tryz.prog [] 43 ci68 = some ir68.body := by kernel_rfl
theorem oki68 : okY Tryz.prog 43 ci68 = true := by kernel_rfl
end
end Gx

/- Part L1. -/
/- A text's lines. -/
set_option linter.unusedSimpArgs false
set_option linter.unusedVariables false
namespace Gx
open Go Go.Proofs Go.RowKit
variable {G : Nat → Option Obj}

/-- The first line with its end, and the rest. -/
def cut1 : List UInt8 → List UInt8 × List UInt8
  | [] => ([], [])
  | c :: cs => if c = 10 then ([c], cs) else (c :: (cut1 cs).1, (cut1 cs).2)
def segsN : Nat → List UInt8 → List (List UInt8)
  | 0, _ => []
  | n + 1, s => if s = [] then [] else (cut1 s).1 :: segsN n (cut1 s).2
/-- A line without its end. -/
def strip (s : List UInt8) : List UInt8 :=
  if ([10] : List UInt8).isSuffixOf s then (if ([13] : List UInt8).isSuffixOf (s.take (s.length - 1)) then (s.take (s.length - 1)).take ((s.take (s.length - 1)).length - 1) else s.take (s.length - 1)) else s
def lines (s : List UInt8) : List (List UInt8) := (segsN s.length s).map strip
theorem cut1_len : ∀ (s : List UInt8), s ≠ [] → (cut1 s).2.length < s.length
  | [], h => absurd rfl h
  | c :: cs, _ => by
    simp only [cut1]
    split
    · simp
    · by_cases h : cs = []
      · subst h; simp [cut1]
      · have := cut1_len cs h; simp; omega
theorem segsN_more : ∀ (n : Nat) (s : List UInt8), s.length ≤ n → segsN n s = segsN s.length s
  | 0, s, h => by have : s = [] := List.eq_nil_of_length_eq_zero (by omega); subst this; rfl
  | n + 1, s, h => by
    by_cases hs : s = []
    · subst hs; rfl
    · obtain ⟨m, hm⟩ : ∃ m, s.length = m + 1 := ⟨s.length - 1, by have := List.length_pos_iff.2 hs; omega⟩
      rw [hm]
      simp only [segsN, hs, if_false]
      have hl := cut1_len s hs
      rw [segsN_more n _ (by omega), segsN_more m _ (by omega)]
theorem segs_cons {s : List UInt8} (h : s ≠ []) : segsN s.length s = (cut1 s).1 :: segsN (cut1 s).2.length (cut1 s).2 := by
  obtain ⟨m, hm⟩ : ∃ m, s.length = m + 1 := ⟨s.length - 1, by have := List.length_pos_iff.2 h; omega⟩
  rw [hm]
  simp only [segsN, h, if_false]
  have hl := cut1_len s h
  rw [segsN_more m _ (by omega)]
theorem ib_nil (c : UInt8) : Lib.indexByte [] c = -1 := by simp [Lib.indexByte]
theorem ib_cons (c : UInt8) (cs : List UInt8) : Lib.indexByte (c :: cs) 10 = if c = 10 then 0 else if Lib.indexByte cs 10 < 0 then -1 else Lib.indexByte cs 10 + 1 := by
  have hg := Lib.indexByte_ge cs 10
  simp only [Lib.indexByte, beq_iff_eq]
  split
  · rfl
  · split <;> split <;> omega
theorem cut1_yes : ∀ {s : List UInt8} {i : Nat}, Lib.indexByte s 10 = i → s.take (i + 1) = (cut1 s).1 ∧ s.drop (i + 1) = (cut1 s).2 ∧ i < s.length
  | [], i, h => by rw [ib_nil] at h; omega
  | c :: cs, i, h => by
    rw [ib_cons] at h
    by_cases hc : c = 10
    · rw [if_pos hc] at h
      obtain rfl : i = 0 := by omega
      simp [cut1, hc]
    · rw [if_neg hc] at h
      split at h
      · omega
      · rename_i hn
        cases i with
        | zero => omega
        | succ i =>
          obtain ⟨h1, h2, h3⟩ := cut1_yes (s := cs) (i := i) (by omega)
          simp [cut1, hc, h1, h2, h3]
theorem cut1_no : ∀ {s : List UInt8}, Lib.indexByte s 10 < 0 → cut1 s = (s, [])
  | [], h => rfl
  | c :: cs, h => by
    rw [ib_cons] at h
    by_cases hc : c = 10
    · rw [if_pos hc] at h; omega
    · rw [if_neg hc] at h
      split at h
      · rename_i hn
        simp [cut1, hc, cut1_no hn]
      · omega

theorem k64c (σ : St) (s : List UInt8) : ARet Tryz.prog G 64 [.str s, .int .u8 10] σ (.int .i64 (Lib.indexByte s 10)) σ := k64 σ s 10
theorem k109c (σ : St) (s : List UInt8) : ARet Tryz.prog G 109 [.str s, .str [10]] σ (.tup [.str (if ([10] : List UInt8).isSuffixOf s then s.take (s.length - 1) else s), .bool (([10] : List UInt8).isSuffixOf s)]) σ := k109 σ s [10]
theorem k110c (σ : St) (s : List UInt8) : ARet Tryz.prog G 110 [.str s, .str [13]] σ (.str (if ([13] : List UInt8).isSuffixOf s then s.take (s.length - 1) else s)) σ := k110 σ s [13]

theorem k108 (σ : St) (s : List UInt8) : ARet Tryz.prog G 108 [.str s] σ (.clo 162 [] [.ptr σ.n 0]) (σ.push 9 [.str s]) := by
  refine ret_of has108 (Nat.le_of_ble_eq_true rfl) ?_
  simp only [ir108]
  repeat' (first | simp (maxSteps := 1000000) (disch := omega) only [rb0, rb1, rb2, rb3, rb4, rb5, Od.ev, Ao.dst, Nat.reduceEqDiff, ↓reduceIte, reduceIte, reduceCtorEq, Nat.reduceAdd, Nat.reduceLeDiff, Nat.reduceSub, Int.reduceToNat, byt, Nat.reduceBEq] | with_reducible refine lw_of (fun _ => ?_) | with_reducible exact True.intro | with_reducible refine fin_same ?_ | with_reducible refine fin_loc ?_ ?_ ?_ | with_reducible exact Loc.refl _ | with_reducible refine Loc.push ?_ _ _ | with_reducible refine Loc.set ?_ _ _ (by first | omega | (simp only [push_n, set_n]; omega)) | with_reducible refine And.intro (by omega) ?_)
  exact fin_keep (by simp (maxSteps := 1000000) (disch := omega) only [rb0, rb1, rb2, rb3, rb4, rb5, Od.ev, Ao.dst, Nat.reduceEqDiff, ↓reduceIte, reduceIte, reduceCtorEq, Nat.reduceAdd, Nat.reduceLeDiff, Nat.reduceSub, Int.reduceToNat, byt, Nat.reduceBEq]) (Keep.refl _ _ _)

theorem byt9 : ((9 : Nat) == byt) = false := rfl
theorem QB_nx (r : Pv) (σ' σ1 : St) (ρ : Env) : QB r σ' .nx ρ σ1 = (r = .bool true ∧ σ' = σ1.at 0) := rfl
theorem at_set (σ : St) (b : Nat) (cs : List Pv) (h : σ.k = 0) : σ.set b cs = (σ.set b cs).at 0 := by simp only [St.at, St.set, h]
theorem all_one (x : Pv) (xs : List Pv) (p : Pv → Prop) (h : ∀ y ∈ xs, p y) (hx : p x) : ∀ y ∈ xs ++ [x], p y := fun y hy => by
  rcases List.mem_append.1 hy with hy | hy
  · exact h y hy
  · rw [List.mem_singleton.1 hy]; exact hx
theorem set_set (σ : St) (b : Nat) (xs ys : List Pv) : (σ.set b xs).set b ys = σ.set b ys := by
  simp only [St.set]; congr 1; funext c; by_cases h : c = b <;> simp [h]
/-- One round: a line more. -/
theorem body62 (σ : St) (ρ : Env) (b : Nat) (s : List UInt8) (out : List Pv) (h3 : (ρ 3).shr = .ptr b 0) (hk : σ.k = 0) (hm : σ.m b = [.sl true out]) (hro : σ.ro b = false) (hlen : out.length + 1 ≤ 2 ^ 32) (hout : ∀ y ∈ out, y.cells.length = 1 ∧ elOk 9 y) :
    YB Tryz.prog G ia62 ib62 [9] ρ [.str s] σ (.bool true) (σ.set b [.sl true (out ++ [.str (strip s)])]) := by
  refine ⟨hk, rfl, ?_⟩
  simp only [ia62, ib62, parEnv]
  repeat' (first | simp (maxSteps := 1000000) (disch := omega) only [rb0, rb1, rb2, rb3, rb4, rb5, Od.ev, Ao.dst, Nat.reduceEqDiff, ↓reduceIte, reduceIte, reduceCtorEq, Nat.reduceAdd, Nat.reduceLeDiff, Nat.reduceSub, Int.reduceToNat, byt, Nat.reduceBEq, h3] | with_reducible refine lw_of (fun _ => ?_) | with_reducible exact True.intro | with_reducible refine fin_same ?_ | with_reducible refine fin_loc ?_ ?_ ?_ | with_reducible exact Loc.refl _ | with_reducible refine Loc.push ?_ _ _ | with_reducible refine Loc.set ?_ _ _ (by first | omega | (simp only [push_n, set_n]; omega)) | with_reducible refine And.intro (by omega) ?_ | with_reducible refine cw_of (k109c _ _) ?_ | with_reducible refine cw_of (k110c _ _) ?_)
  have ho := eq_true hout
  refine bw_split (fun h => ?_) (fun h => ?_)
  · repeat' (first | simp (maxSteps := 1000000) (disch := omega) only [rb0, rb1, rb2, rb3, rb4, rb5, Od.ev, Ao.dst, Nat.reduceEqDiff, ↓reduceIte, reduceIte, reduceCtorEq, Nat.reduceAdd, Nat.reduceLeDiff, Nat.reduceSub, Int.reduceToNat, byt, Nat.reduceBEq, h, h3, hm, hro, ho, QB_nx, List.mem_singleton, forall_eq, List.not_mem_nil, false_implies, implies_true, byt9, List.set_cons_zero] | with_reducible refine lw_of (fun _ => ?_) | with_reducible exact True.intro | with_reducible refine fin_same ?_ | with_reducible refine fin_loc ?_ ?_ ?_ | with_reducible exact Loc.refl _ | with_reducible refine Loc.push ?_ _ _ | with_reducible refine Loc.set ?_ _ _ (by first | omega | (simp only [push_n, set_n]; omega)) | with_reducible refine And.intro (by omega) ?_ | with_reducible refine cw_of (k110c _ _) ?_)
    rw [set_set, ← at_set _ _ _ hk]; simp [strip, h]
  · repeat' (first | simp (maxSteps := 1000000) (disch := omega) only [rb0, rb1, rb2, rb3, rb4, rb5, Od.ev, Ao.dst, Nat.reduceEqDiff, ↓reduceIte, reduceIte, reduceCtorEq, Nat.reduceAdd, Nat.reduceLeDiff, Nat.reduceSub, Int.reduceToNat, byt, Nat.reduceBEq, h, h3, hm, hro, ho, QB_nx, List.mem_singleton, forall_eq, List.not_mem_nil, false_implies, implies_true, byt9, List.set_cons_zero] | with_reducible refine lw_of (fun _ => ?_) | with_reducible exact True.intro | with_reducible refine fin_same ?_ | with_reducible refine fin_loc ?_ ?_ ?_ | with_reducible exact Loc.refl _ | with_reducible refine Loc.push ?_ _ _ | with_reducible refine Loc.set ?_ _ _ (by first | omega | (simp only [push_n, set_n]; omega)) | with_reducible refine And.intro (by omega) ?_)
    rw [set_set, ← at_set _ _ _ hk]; simp [strip, h]
theorem strs_ok (l : List (List UInt8)) (el : Nat) (h : ((el == byt) = false)) : ∀ y ∈ l.map Pv.str, y.cells.length = 1 ∧ elOk el y := by
  intro y hy
  obtain ⟨s, _, rfl⟩ := List.mem_map.1 hy
  exact ⟨rfl, by simp [elOk, Pv.isU8, h]⟩
/-- The two boxes of a loop over a text's lines. -/
structure Two (σ0 σ : St) (b1 b2 : Nat) (x y : Pv) : Prop where
  k : σ.k = 0
  loc : Loc σ0 σ
  m1 : σ.m b1 = [x]
  m2 : σ.m b2 = [y]
  r1 : σ.ro b1 = false
  r2 : σ.ro b2 = false
  g1 : σ0.n ≤ b1
  g2 : σ0.n ≤ b2
  ne : b1 ≠ b2
theorem Two.set1 {σ0 σ : St} {b1 b2 : Nat} {x y : Pv} (h : Two σ0 σ b1 b2 x y) (x' : Pv) : Two σ0 (σ.set b1 [x']) b1 b2 x' y :=
  ⟨h.k, h.loc.set b1 _ h.g1, by simp [St.set], by simp [St.set, h.ne.symm, h.m2], h.r1, h.r2, h.g1, h.g2, h.ne⟩
theorem Two.set2 {σ0 σ : St} {b1 b2 : Nat} {x y : Pv} (h : Two σ0 σ b1 b2 x y) (y' : Pv) : Two σ0 (σ.set b2 [y']) b1 b2 x y' :=
  ⟨h.k, h.loc.set b2 _ h.g2, by simp [St.set, h.ne, h.m1], by simp [St.set], h.r1, h.r2, h.g1, h.g2, h.ne⟩
theorem segs_count : ∀ (n : Nat) (s : List UInt8), (segsN n s).length ≤ n
  | 0, s => by simp [segsN]
  | n + 1, s => by
    simp only [segsN]
    split
    · simp
    · have := segs_count n (cut1 s).2
      simp; omega

theorem it162 {Q : Post} {ρc : Env} {σ0 σ : St} {b1 b2 : Nat} (s : List UInt8) (hs : s.length < 2 ^ 32) (h3 : (ρc 3).shr = .ptr b1 0) (hT : Two σ0 σ b1 b2 (.sl true []) (.str s)) (hn : b2 < σ.n)
    (hfin : ∀ σe, Two σ0 σe b1 b2 (.sl true ((lines s).map .str)) (.str []) → Q .nx (fun t => (ρc t).shr) σe) (l : Nat) (L : Ic → Post → Env → St → Prop) (hL : LRule (CY Tryz.prog G l (YB Tryz.prog G ia62 ib62 [9] ρc)) L) :
    ir162.body.wp (CY Tryz.prog G l (YB Tryz.prog G ia62 ib62 [9] ρc)) L (ItPost Q ρc) (envOf [.clo (ynum + l) [] [], .ptr b2 0]) σ := by
  simp only [ir162]
  repeat' (first | simp (maxSteps := 1000000) (disch := omega) only [rb0, rb1, rb2, rb3, rb4, rb5, Od.ev, Ao.dst, Nat.reduceEqDiff, ↓reduceIte, reduceIte, reduceCtorEq, Nat.reduceAdd, Nat.reduceLeDiff, Nat.reduceSub, Int.reduceToNat, byt, Nat.reduceBEq] | with_reducible refine lw_of (fun _ => ?_) | with_reducible exact True.intro | with_reducible refine fin_same ?_ | with_reducible refine fin_loc ?_ ?_ ?_ | with_reducible exact Loc.refl _ | with_reducible refine Loc.push ?_ _ _ | with_reducible refine Loc.set ?_ _ _ (by first | omega | (simp only [push_n, set_n]; omega)) | with_reducible refine And.intro (by omega) ?_)
  refine hL _ _ (fun n ρ' σ' => ∃ (done : List (List UInt8)) (s' : List UInt8), n = s'.length ∧ Two σ0 σ' b1 b2 (.sl true (done.map .str)) (.str s') ∧ done ++ (segsN s'.length s').map strip = lines s ∧ ρ' 0 = .clo (ynum + l) [] [] ∧ ρ' 1 = .ptr b2 0) ?_ s.length _ _
    ⟨[], s, rfl, hT, rfl, rfl, rfl⟩
  rintro n ρ' σ' ⟨done, s', rfl, hT', hdone, e0, e1⟩
  have hm2 := hT'.m2
  have hr2 := hT'.r2
  repeat' (first | simp (maxSteps := 1000000) (disch := omega) only [rb0, rb1, rb2, rb3, rb4, rb5, Od.ev, Ao.dst, Nat.reduceEqDiff, ↓reduceIte, reduceIte, reduceCtorEq, Nat.reduceAdd, Nat.reduceLeDiff, Nat.reduceSub, Int.reduceToNat, byt, Nat.reduceBEq, e0, e1, hm2, hr2] | with_reducible refine lw_of (fun _ => ?_) | with_reducible exact True.intro | with_reducible refine fin_same ?_ | with_reducible refine fin_loc ?_ ?_ ?_ | with_reducible exact Loc.refl _ | with_reducible refine Loc.push ?_ _ _ | with_reducible refine Loc.set ?_ _ _ (by first | omega | (simp only [push_n, set_n]; omega)) | with_reducible refine And.intro (by omega) ?_)
  refine bw_dec (fun h => ?_) (fun h => ?_)
  · have hne : s' ≠ [] := by intro e; subst e; simp at h
    repeat' (first | simp (maxSteps := 1000000) (disch := omega) only [rb0, rb1, rb2, rb3, rb4, rb5, Od.ev, Ao.dst, Nat.reduceEqDiff, ↓reduceIte, reduceIte, reduceCtorEq, Nat.reduceAdd, Nat.reduceLeDiff, Nat.reduceSub, Int.reduceToNat, byt, Nat.reduceBEq, e0, e1, hm2, hr2] | with_reducible refine lw_of (fun _ => ?_) | with_reducible exact True.intro | with_reducible refine fin_same ?_ | with_reducible refine fin_loc ?_ ?_ ?_ | with_reducible exact Loc.refl _ | with_reducible refine Loc.push ?_ _ _ | with_reducible refine Loc.set ?_ _ _ (by first | omega | (simp only [push_n, set_n]; omega)) | with_reducible refine And.intro (by omega) ?_ | with_reducible refine cw_of (cy_of (k64c _ _) rfl) ?_)
    refine bw_dec (fun hi => ?_) (fun hi => ?_)
    · obtain ⟨i, hi'⟩ : ∃ i : Nat, Lib.indexByte s' 10 = i := ⟨(Lib.indexByte s' 10).toNat, by omega⟩
      obtain ⟨c1, c2, c3⟩ := cut1_yes hi'
      have hw : IntKind.i64.wrap ((i : Int) + 1) = (i : Int) + 1 := wrap64 (by omega)
      have ht : ((i : Int) + 1).toNat = i + 1 := by omega
      rw [hi']
      simp (maxSteps := 1000000) (disch := omega) only [rb0, rb1, rb2, rb3, rb4, rb5, Od.ev, Ao.dst, Nat.reduceEqDiff, ↓reduceIte, reduceIte, reduceCtorEq, Nat.reduceAdd, Nat.reduceLeDiff, Nat.reduceSub, Int.reduceToNat, byt, Nat.reduceBEq, e0, e1, hm2, hr2, hw, ht, c1, c2, List.take_length]
      have hT2 := hT'.set2 (.str (cut1 s').2)
      repeat' (with_reducible refine And.intro ?_ ?_)
      all_goals
        refine cw_of (cy_yield (body62 _ ρc b1 (cut1 s').1 (done.map .str) h3 hT2.k hT2.m1 hT2.r1 ?_ (strs_ok done 9 byt9))) ?_
        · have h1 := congrArg List.length hdone
          have h2 := segs_count s.length s
          rw [segs_cons hne] at h1
          simp only [List.length_append, List.length_map, List.length_cons, lines] at h1 ⊢
          omega
        · repeat' (first | simp (maxSteps := 1000000) (disch := omega) only [rb0, rb1, rb2, rb3, rb4, rb5, Od.ev, Ao.dst, Nat.reduceEqDiff, ↓reduceIte, reduceIte, reduceCtorEq, Nat.reduceAdd, Nat.reduceLeDiff, Nat.reduceSub, Int.reduceToNat, byt, Nat.reduceBEq] | with_reducible refine lw_of (fun _ => ?_) | with_reducible exact True.intro | with_reducible refine fin_same ?_ | with_reducible refine fin_loc ?_ ?_ ?_ | with_reducible exact Loc.refl _ | with_reducible refine Loc.push ?_ _ _ | with_reducible refine Loc.set ?_ _ _ (by first | omega | (simp only [push_n, set_n]; omega)) | with_reducible refine And.intro (by omega) ?_)
          refine ⟨(cut1 s').2.length, cut1_len s' hne, done ++ [strip (cut1 s').1], (cut1 s').2, rfl, ?_, ?_, ?_, ?_⟩
          · simpa using hT2.set1 (.sl true (done.map .str ++ [.str (strip (cut1 s').1)]))
          · rw [← hdone, segs_cons hne]; simp
          · simp (maxSteps := 1000000) (disch := omega) only [rb0, rb1, rb2, rb3, rb4, rb5, Od.ev, Ao.dst, Nat.reduceEqDiff, ↓reduceIte, reduceIte, reduceCtorEq, Nat.reduceAdd, Nat.reduceLeDiff, Nat.reduceSub, Int.reduceToNat, byt, Nat.reduceBEq, e0]
          · simp (maxSteps := 1000000) (disch := omega) only [rb0, rb1, rb2, rb3, rb4, rb5, Od.ev, Ao.dst, Nat.reduceEqDiff, ↓reduceIte, reduceIte, reduceCtorEq, Nat.reduceAdd, Nat.reduceLeDiff, Nat.reduceSub, Int.reduceToNat, byt, Nat.reduceBEq, e1]
    · have hn := cut1_no (s := s') (by omega)
      repeat' (first | simp (maxSteps := 1000000) (disch := omega) only [rb0, rb1, rb2, rb3, rb4, rb5, Od.ev, Ao.dst, Nat.reduceEqDiff, ↓reduceIte, reduceIte, reduceCtorEq, Nat.reduceAdd, Nat.reduceLeDiff, Nat.reduceSub, Int.reduceToNat, byt, Nat.reduceBEq, e0, e1, hm2, hr2] | with_reducible refine lw_of (fun _ => ?_) | with_reducible exact True.intro | with_reducible refine fin_same ?_ | with_reducible refine fin_loc ?_ ?_ ?_ | with_reducible exact Loc.refl _ | with_reducible refine Loc.push ?_ _ _ | with_reducible refine Loc.set ?_ _ _ (by first | omega | (simp only [push_n, set_n]; omega)) | with_reducible refine And.intro (by omega) ?_)
      have hT2 := hT'.set2 (.str [])
      refine cw_of (cy_yield (body62 _ ρc b1 s' (done.map .str) h3 hT2.k hT2.m1 hT2.r1 ?_ (strs_ok done 9 byt9))) ?_
      · have h1 := congrArg List.length hdone
        have h2 := segs_count s.length s
        rw [segs_cons hne] at h1
        simp only [List.length_append, List.length_map, List.length_cons, lines] at h1 ⊢
        omega
      · repeat' (first | simp (maxSteps := 1000000) (disch := omega) only [rb0, rb1, rb2, rb3, rb4, rb5, Od.ev, Ao.dst, Nat.reduceEqDiff, ↓reduceIte, reduceIte, reduceCtorEq, Nat.reduceAdd, Nat.reduceLeDiff, Nat.reduceSub, Int.reduceToNat, byt, Nat.reduceBEq] | with_reducible refine lw_of (fun _ => ?_) | with_reducible exact True.intro | with_reducible refine fin_same ?_ | with_reducible refine fin_loc ?_ ?_ ?_ | with_reducible exact Loc.refl _ | with_reducible refine Loc.push ?_ _ _ | with_reducible refine Loc.set ?_ _ _ (by first | omega | (simp only [push_n, set_n]; omega)) | with_reducible refine And.intro (by omega) ?_)
        refine ⟨0, by omega, done ++ [strip s'], [], rfl, ?_, ?_, ?_, ?_⟩
        · simpa using hT2.set1 (.sl true (done.map .str ++ [.str (strip s')]))
        · rw [← hdone, segs_cons hne, hn]; simp [segsN]
        · simp (maxSteps := 1000000) (disch := omega) only [rb0, rb1, rb2, rb3, rb4, rb5, Od.ev, Ao.dst, Nat.reduceEqDiff, ↓reduceIte, reduceIte, reduceCtorEq, Nat.reduceAdd, Nat.reduceLeDiff, Nat.reduceSub, Int.reduceToNat, byt, Nat.reduceBEq, e0]
        · simp (maxSteps := 1000000) (disch := omega) only [rb0, rb1, rb2, rb3, rb4, rb5, Od.ev, Ao.dst, Nat.reduceEqDiff, ↓reduceIte, reduceIte, reduceCtorEq, Nat.reduceAdd, Nat.reduceLeDiff, Nat.reduceSub, Int.reduceToNat, byt, Nat.reduceBEq, e1]
  · repeat' (first | simp (maxSteps := 1000000) (disch := omega) only [rb0, rb1, rb2, rb3, rb4, rb5, Od.ev, Ao.dst, Nat.reduceEqDiff, ↓reduceIte, reduceIte, reduceCtorEq, Nat.reduceAdd, Nat.reduceLeDiff, Nat.reduceSub, Int.reduceToNat, byt, Nat.reduceBEq, e0, e1, hm2, hr2] | with_reducible refine lw_of (fun _ => ?_) | with_reducible exact True.intro | with_reducible refine fin_same ?_ | with_reducible refine fin_loc ?_ ?_ ?_ | with_reducible exact Loc.refl _ | with_reducible refine Loc.push ?_ _ _ | with_reducible refine Loc.set ?_ _ _ (by first | omega | (simp only [push_n, set_n]; omega)) | with_reducible refine And.intro (by omega) ?_)
    obtain rfl : s' = [] := List.eq_nil_of_length_eq_zero (by omega)
    refine ⟨.inl rfl, ?_⟩
    rw [hT'.k]
    refine hfin σ' ?_
    simpa [segsN, ← hdone] using hT'
end Gx

/- Part L2. -/
/- rows.Lines. -/
set_option linter.unusedSimpArgs false
set_option linter.unusedVariables false
namespace Gx
open Go Go.Proofs Go.RowKit
variable {G : Nat → Option Obj}
theorem D_rt (res : List Rv) (σ : St) (r : Pv) (σ' : St) (ρ : Env) (σ1 : St) : Done res σ r σ' .rt ρ σ1 = Fin res σ r σ' ρ σ1 := rfl
theorem D_nx (res : List Rv) (σ : St) (r : Pv) (σ' : St) (ρ : Env) (σ1 : St) : Done res σ r σ' .nx ρ σ1 = Fin res σ r σ' ρ σ1 := rfl
theorem clean_strs (n : Nat) (l : List (List UInt8)) : cleanL n (l.map .str) = true := by
  rw [cleanL_iff]
  intro x hx
  obtain ⟨s, _, rfl⟩ := List.mem_map.1 hx
  rfl
theorem k62 (σ : St) (s : List UInt8) (hs : s.length < 2 ^ 32) : ARet Tryz.prog G 62 [.str s] σ (.sl false ((lines s).map .str)) σ := by
  refine aret_marks (Nat.le_of_ble_eq_true rfl) Tryz.func62 (by kernel_rfl) hb62 (by rw [Tryz.ntmps62]; exact er62) (by rw [Tryz.ntmps62]; exact Nat.le_of_ble_eq_true rfl) (fun F g w a hG hA => ?_)
  rw [Tryz.ntmps62] at hA ⊢
  rw [c62_eq]
  refine seq_pl e62_0 (Q := Done r62 σ (.sl false ((lines s).map .str)) σ) (fun e a w _ h => .inl h) hG hA ?_
  simp only [i62_0]
  repeat' (first | simp (maxSteps := 1000000) (disch := omega) only [rb0, rb1, rb2, rb3, rb4, rb5, Od.ev, Ao.dst, Nat.reduceEqDiff, ↓reduceIte, reduceIte, reduceCtorEq, Nat.reduceAdd, Nat.reduceLeDiff, Nat.reduceSub, Int.reduceToNat, byt, Nat.reduceBEq] | with_reducible refine lw_of (fun _ => ?_) | with_reducible exact True.intro | with_reducible refine fin_same ?_ | with_reducible refine fin_loc ?_ ?_ ?_ | with_reducible exact Loc.refl _ | with_reducible refine Loc.push ?_ _ _ | with_reducible refine Loc.set ?_ _ _ (by first | omega | (simp only [push_n, set_n]; omega)) | with_reducible refine And.intro (by omega) ?_)
  intro a1 w1 hA1
  refine seq_pl e62_1 (Q := Done r62 σ (.sl false ((lines s).map .str)) σ) (fun e a w _ h => .inl h) hG hA1 ?_
  simp only [i62_1]
  repeat' (first | simp (maxSteps := 1000000) (disch := omega) only [rb0, rb1, rb2, rb3, rb4, rb5, Od.ev, Ao.dst, Nat.reduceEqDiff, ↓reduceIte, reduceIte, reduceCtorEq, Nat.reduceAdd, Nat.reduceLeDiff, Nat.reduceSub, Int.reduceToNat, byt, Nat.reduceBEq] | with_reducible refine lw_of (fun _ => ?_) | with_reducible exact True.intro | with_reducible refine fin_same ?_ | with_reducible refine fin_loc ?_ ?_ ?_ | with_reducible exact Loc.refl _ | with_reducible refine Loc.push ?_ _ _ | with_reducible refine Loc.set ?_ _ _ (by first | omega | (simp only [push_n, set_n]; omega)) | with_reducible refine And.intro (by omega) ?_)
  intro a2 w2 hA2
  refine wp_seq (seq_pl e62_2 (Q := Done r62 σ (.sl false ((lines s).map .str)) σ) (fun e a w hne h => ?_) hG hA2 ?_)
  · cases e with
    | normal => exact absurd rfl hne
    | _ => exact .inl h
  simp only [i62_2]
  repeat' (first | simp (maxSteps := 1000000) (disch := omega) only [rb0, rb1, rb2, rb3, rb4, rb5, Od.ev, Ao.dst, Nat.reduceEqDiff, ↓reduceIte, reduceIte, reduceCtorEq, Nat.reduceAdd, Nat.reduceLeDiff, Nat.reduceSub, Int.reduceToNat, byt, Nat.reduceBEq] | with_reducible refine lw_of (fun _ => ?_) | with_reducible exact True.intro | with_reducible refine fin_same ?_ | with_reducible refine fin_loc ?_ ?_ ?_ | with_reducible exact Loc.refl _ | with_reducible refine Loc.push ?_ _ _ | with_reducible refine Loc.set ?_ _ _ (by first | omega | (simp only [push_n, set_n]; omega)) | with_reducible refine And.intro (by omega) ?_ | with_reducible refine cw_of (k108 _ _) ?_)
  intro a3 w3 hA3
  refine rf_mid (god := .t 8) rfl ea62 eb62 ez62 na62 nb62 (gf := 162) (caps := [.ptr (σ.push 57 [.sl true []]).n 0]) (by simp (maxSteps := 1000000) (disch := omega) only [rb0, rb1, rb2, rb3, rb4, rb5, Od.ev, Ao.dst, Nat.reduceEqDiff, ↓reduceIte, reduceIte, reduceCtorEq, Nat.reduceAdd, Nat.reduceLeDiff, Nat.reduceSub, Int.reduceToNat, byt, Nat.reduceBEq]) (Nat.le_of_ble_eq_true rfl) Tryz.func162 (by kernel_rfl) hbi162 (by rw [Tryz.ntmps162]; exact eci162) (by rw [Tryz.ntmps162]; exact oki162) rfl (by rw [Tryz.ntmps162]; exact Nat.le_of_ble_eq_true rfl)
    (fun l L hL => ?_) hG hA3 (fun e a w h => .inr h)
  refine it162 (σ0 := σ) (σ := ((σ.push 57 [Pv.sl true []]).push 9 [Pv.str s]).at 0) (b1 := σ.n) (b2 := σ.n + 1) s hs (by simp (maxSteps := 1000000) (disch := omega) only [rb0, rb1, rb2, rb3, rb4, rb5, Od.ev, Ao.dst, Nat.reduceEqDiff, ↓reduceIte, reduceIte, reduceCtorEq, Nat.reduceAdd, Nat.reduceLeDiff, Nat.reduceSub, Int.reduceToNat, byt, Nat.reduceBEq]) ⟨rfl, (show Loc σ (((σ.push 57 [Pv.sl true []]).push 9 [Pv.str s]).at 0) from Loc.push (Loc.push (Loc.refl σ) _ _) _ _), by simp [St.at, St.push], by simp [St.at, St.push], by simp [St.at, St.push], by simp [St.at, St.push], Nat.le_refl _, by simp [St.push], by simp [St.push]⟩ (by simp [St.at, St.push]) (fun σe hT => ?_) l L hL
  rw [q_blk_nx, q_then]
  have hm1 := hT.m1
  simp only [iz62, r62]
  repeat' (first | simp (maxSteps := 1000000) (disch := omega) only [rb0, rb1, rb2, rb3, rb4, rb5, Od.ev, Ao.dst, Nat.reduceEqDiff, ↓reduceIte, reduceIte, reduceCtorEq, Nat.reduceAdd, Nat.reduceLeDiff, Nat.reduceSub, Int.reduceToNat, byt, Nat.reduceBEq, hm1, D_rt] | with_reducible refine lw_of (fun _ => ?_) | with_reducible exact True.intro | with_reducible refine fin_same ?_ | with_reducible refine fin_loc ?_ ?_ ?_ | with_reducible exact Loc.refl _ | with_reducible refine Loc.push ?_ _ _ | with_reducible refine Loc.set ?_ _ _ (by first | omega | (simp only [push_n, set_n]; omega)) | with_reducible refine And.intro (by omega) ?_)
  all_goals first
    | exact hT.loc
    | exact clean_strs _ _
end Gx

/- Part E1. -/
/- The documents of rows: load.each. -/
set_option linter.unusedSimpArgs false
set_option linter.unusedVariables false
namespace Gx
open Go Go.Proofs Go.RowKit
variable {G : Nat → Option Obj}

def isMark (r : Row) : Bool := decide (r.col = 0) && decide (r.text = [45, 45, 45])
theorem k70 (σ : St) (r : Row) : ARet Tryz.prog G 70 [r.pv] σ (.bool (isMark r)) σ := by
  refine ret_of has70 (Nat.le_of_ble_eq_true rfl) ?_
  simp only [ir70, Row.pv, isMark]
  by_cases h : r.col = 0
  · repeat' (first | simp (maxSteps := 1000000) (disch := omega) only [rb0, rb1, rb2, rb3, rb4, rb5, Od.ev, Ao.dst, Nat.reduceEqDiff, ↓reduceIte, reduceIte, reduceCtorEq, Nat.reduceAdd, Nat.reduceLeDiff, Nat.reduceSub, Int.reduceToNat, byt, Nat.reduceBEq, h] | with_reducible refine lw_of (fun _ => ?_) | with_reducible exact True.intro | with_reducible refine fin_same ?_ | with_reducible refine fin_loc ?_ ?_ ?_ | with_reducible exact Loc.refl _ | with_reducible refine Loc.push ?_ _ _ | with_reducible refine Loc.set ?_ _ _ (by first | omega | (simp only [push_n, set_n]; omega)) | with_reducible refine And.intro (by omega) ?_)
  · repeat' (first | simp (maxSteps := 1000000) (disch := omega) only [rb0, rb1, rb2, rb3, rb4, rb5, Od.ev, Ao.dst, Nat.reduceEqDiff, ↓reduceIte, reduceIte, reduceCtorEq, Nat.reduceAdd, Nat.reduceLeDiff, Nat.reduceSub, Int.reduceToNat, byt, Nat.reduceBEq, h] | with_reducible refine lw_of (fun _ => ?_) | with_reducible exact True.intro | with_reducible refine fin_same ?_ | with_reducible refine fin_loc ?_ ?_ ?_ | with_reducible exact Loc.refl _ | with_reducible refine Loc.push ?_ _ _ | with_reducible refine Loc.set ?_ _ _ (by first | omega | (simp only [push_n, set_n]; omega)) | with_reducible refine And.intro (by omega) ?_)
theorem k72 (σ : St) (r : Row) : ARet Tryz.prog G 72 [r.pv] σ (.bool (!r.empty)) σ := by
  refine ret_of has72 (Nat.le_of_ble_eq_true rfl) ?_
  simp only [ir72, Row.pv, Row.empty]
  cases ht : r.text with
  | nil => repeat' (first | simp (maxSteps := 1000000) (disch := omega) only [rb0, rb1, rb2, rb3, rb4, rb5, Od.ev, Ao.dst, Nat.reduceEqDiff, ↓reduceIte, reduceIte, reduceCtorEq, Nat.reduceAdd, Nat.reduceLeDiff, Nat.reduceSub, Int.reduceToNat, byt, Nat.reduceBEq, ht] | with_reducible refine lw_of (fun _ => ?_) | with_reducible exact True.intro | with_reducible refine fin_same ?_ | with_reducible refine fin_loc ?_ ?_ ?_ | with_reducible exact Loc.refl _ | with_reducible refine Loc.push ?_ _ _ | with_reducible refine Loc.set ?_ _ _ (by first | omega | (simp only [push_n, set_n]; omega)) | with_reducible refine And.intro (by omega) ?_)
  | cons c t =>
    repeat' (first | simp (maxSteps := 1000000) (disch := omega) only [rb0, rb1, rb2, rb3, rb4, rb5, Od.ev, Ao.dst, Nat.reduceEqDiff, ↓reduceIte, reduceIte, reduceCtorEq, Nat.reduceAdd, Nat.reduceLeDiff, Nat.reduceSub, Int.reduceToNat, byt, Nat.reduceBEq, ht] | with_reducible refine lw_of (fun _ => ?_) | with_reducible exact True.intro | with_reducible refine fin_same ?_ | with_reducible refine fin_loc ?_ ?_ ?_ | with_reducible exact Loc.refl _ | with_reducible refine Loc.push ?_ _ _ | with_reducible refine Loc.set ?_ _ _ (by first | omega | (simp only [push_n, set_n]; omega)) | with_reducible refine And.intro (by omega) ?_)
    by_cases h : c = 35
    · subst h; simp
    · have h' : ¬ (c.toNat : Int) = 35 := fun e => h (by have := (u8eq c 35).mp e; exact this)
      simp [h, h']
theorem idx_ge (p : Row → Bool) (l : List Row) : decide (idx p l ≥ 0) = l.any p := by
  unfold idx
  cases h : l.findIdx? p with
  | none => 
    have := List.findIdx?_eq_none_iff.1 h
    have h2 : l.any p = false := by rw [List.any_eq_false]; intro x hx; simp [this x hx]
    rw [h2]; rfl
  | some i =>
    obtain ⟨hi, hp, _⟩ := List.findIdx?_eq_some_iff_getElem.1 h
    have : l.any p = true := List.any_eq_true.2 ⟨_, List.getElem_mem hi, hp⟩
    rw [this]; simp
theorem k71 (σ : St) (l : List Row) (f : Nat) (a b : List Pv) (p : Row → Bool) (hp : ∀ r : Row, ARet Tryz.prog G f (a ++ [r.pv] ++ b) σ (.bool (p r)) σ) : ARet Tryz.prog G 71 [.sl false (rowsPv l), .clo f a b] σ (.bool (l.any p)) σ := by
  refine ret_of has71 (Nat.le_of_ble_eq_true rfl) ?_
  simp only [ir71]
  repeat' (first | simp (maxSteps := 1000000) (disch := omega) only [rb0, rb1, rb2, rb3, rb4, rb5, Od.ev, Ao.dst, Nat.reduceEqDiff, ↓reduceIte, reduceIte, reduceCtorEq, Nat.reduceAdd, Nat.reduceLeDiff, Nat.reduceSub, Int.reduceToNat, byt, Nat.reduceBEq] | with_reducible refine lw_of (fun _ => ?_) | with_reducible exact True.intro | with_reducible refine fin_same ?_ | with_reducible refine fin_loc ?_ ?_ ?_ | with_reducible exact Loc.refl _ | with_reducible refine Loc.push ?_ _ _ | with_reducible refine Loc.set ?_ _ _ (by first | omega | (simp only [push_n, set_n]; omega)) | with_reducible refine And.intro (by omega) ?_)
  refine cw_of (k69 _ l f a b p hp) ?_
  repeat' (first | simp (maxSteps := 1000000) (disch := omega) only [rb0, rb1, rb2, rb3, rb4, rb5, Od.ev, Ao.dst, Nat.reduceEqDiff, ↓reduceIte, reduceIte, reduceCtorEq, Nat.reduceAdd, Nat.reduceLeDiff, Nat.reduceSub, Int.reduceToNat, byt, Nat.reduceBEq] | with_reducible refine lw_of (fun _ => ?_) | with_reducible exact True.intro | with_reducible refine fin_same ?_ | with_reducible refine fin_loc ?_ ?_ ?_ | with_reducible exact Loc.refl _ | with_reducible refine Loc.push ?_ _ _ | with_reducible refine Loc.set ?_ _ _ (by first | omega | (simp only [push_n, set_n]; omega)) | with_reducible refine And.intro (by omega) ?_)
  exact idx_ge p l
theorem k40 (σ : St) (l : List Row) : ARet Tryz.prog G 40 [.sl false (rowsPv l)] σ (.clo 68 [] [.ptr σ.n 0]) (σ.push 33 [.sl false (rowsPv l)]) := by
  refine ret_of has40 (Nat.le_of_ble_eq_true rfl) ?_
  simp only [ir40]
  repeat' (first | simp (maxSteps := 1000000) (disch := omega) only [rb0, rb1, rb2, rb3, rb4, rb5, Od.ev, Ao.dst, Nat.reduceEqDiff, ↓reduceIte, reduceIte, reduceCtorEq, Nat.reduceAdd, Nat.reduceLeDiff, Nat.reduceSub, Int.reduceToNat, byt, Nat.reduceBEq] | with_reducible refine lw_of (fun _ => ?_) | with_reducible exact True.intro | with_reducible refine fin_same ?_ | with_reducible refine fin_loc ?_ ?_ ?_ | with_reducible exact Loc.refl _ | with_reducible refine Loc.push ?_ _ _ | with_reducible refine Loc.set ?_ _ _ (by first | omega | (simp only [push_n, set_n]; omega)) | with_reducible refine And.intro (by omega) ?_)
  exact fin_keep (by simp (maxSteps := 1000000) (disch := omega) only [rb0, rb1, rb2, rb3, rb4, rb5, Od.ev, Ao.dst, Nat.reduceEqDiff, ↓reduceIte, reduceIte, reduceCtorEq, Nat.reduceAdd, Nat.reduceLeDiff, Nat.reduceSub, Int.reduceToNat, byt, Nat.reduceBEq]) (Keep.refl _ _ _)

/-- How far the first document reaches. -/
def mk1 (l : List Row) : Nat := (l.findIdx? isMark).getD l.length
def eachN : Nat → Nat → List Row → List (Nat × List Row)
  | 0, _, _ => []
  | n + 1, at_, l => (if at_ > 0 || (l.take (mk1 l)).any (fun r => !r.empty) then [(at_, l.take (mk1 l))] else []) ++ (if mk1 l < l.length then eachN n (at_ + mk1 l + 1) (l.drop (mk1 l + 1)) else [])
def eachL (l : List Row) : List (Nat × List Row) := eachN (l.length + 1) 0 l
theorem mk1_le (l : List Row) : mk1 l ≤ l.length := by
  unfold mk1
  cases h : l.findIdx? isMark with
  | none => simp
  | some i => have := (List.findIdx?_eq_some_iff_getElem.1 h).1; simp; omega
theorem eachN_more : ∀ (n : Nat) (k : Nat) (l : List Row), l.length < n → eachN n k l = eachN (l.length + 1) k l
  | 0, k, l, h => by omega
  | n + 1, k, l, h => by
    simp only [eachN]
    congr 1
    split
    · rename_i hm
      rw [eachN_more n _ _ (by simp; omega)]
      by_cases hl : l.length = 0
      · omega
      · rw [eachN_more l.length _ _ (by simp; omega)]
    · rfl
theorem idx_mk (l : List Row) : idx isMark l = if mk1 l < l.length then (mk1 l : Int) else -1 := by
  unfold idx mk1
  cases h : l.findIdx? isMark with
  | none => simp
  | some i => have := (List.findIdx?_eq_some_iff_getElem.1 h).1; simp [this]
theorem byt33 : ((33 : Nat) == byt) = false := rfl
theorem body30 (σ : St) (ρ : Env) (b : Nat) (n : Int) (rows : List Pv) (out : List Pv) (h3 : (ρ 3).shr = .ptr b 0) (hk : σ.k = 0) (hm : σ.m b = [.sl true out]) (hro : σ.ro b = false) (hlen : out.length + 1 ≤ 2 ^ 32) (hout : ∀ y ∈ out, y.cells.length = 1 ∧ elOk 33 y) :
    YB Tryz.prog G ia30 ib30 [8, 9] ρ [.int .i64 n, .sl false rows] σ (.bool true) (σ.set b [.sl true (out ++ [.sl false rows])]) := by
  refine ⟨hk, rfl, ?_⟩
  simp only [ia30, ib30, parEnv]
  have ho := eq_true hout
  repeat' (first | simp (maxSteps := 1000000) (disch := omega) only [rb0, rb1, rb2, rb3, rb4, rb5, Od.ev, Ao.dst, Nat.reduceEqDiff, ↓reduceIte, reduceIte, reduceCtorEq, Nat.reduceAdd, Nat.reduceLeDiff, Nat.reduceSub, Int.reduceToNat, byt, Nat.reduceBEq, h3, hm, hro, ho, QB_nx, List.mem_singleton, forall_eq, List.not_mem_nil, false_implies, implies_true, byt33, List.set_cons_zero] | with_reducible refine lw_of (fun _ => ?_) | with_reducible exact True.intro | with_reducible refine fin_same ?_ | with_reducible refine fin_loc ?_ ?_ ?_ | with_reducible exact Loc.refl _ | with_reducible refine Loc.push ?_ _ _ | with_reducible refine Loc.set ?_ _ _ (by first | omega | (simp only [push_n, set_n]; omega)) | with_reducible refine And.intro (by omega) ?_)
  rw [set_set, ← at_set _ _ _ hk]

/-- The iterator of the documents, whatever the loop's body does. -/
theorem it68 {Y : List Pv → St → Pv → St → Prop} {Q : Post} {ρc : Env} {σ : St} {b2 : Nat} (l : List Row) (hlen : l.length ≤ 2 ^ 32) (J : List (Nat × List Row) → St → Prop) (Stop : St → Prop)
    (hJ : ∀ d σ, J d σ → σ.m b2 = [.sl false (rowsPv l)] ∧ σ.k = 0) (hS : ∀ σ, Stop σ → σ.k ≠ 0)
    (hY : ∀ d x r σ, J d σ → d ++ x :: r = eachL l → (∃ σ', Y [.int .i64 (x.1 : Int), .sl false (rowsPv x.2)] σ (.bool true) σ' ∧ J (d ++ [x]) σ') ∨ (∃ σ', Y [.int .i64 (x.1 : Int), .sl false (rowsPv x.2)] σ (.bool false) σ' ∧ Stop σ'))
    (h0 : J [] σ) (hfin : ∀ σe, J (eachL l) σe ∨ Stop σe → match σe.k with
      | 0 => Q .nx (fun t => (ρc t).shr) σe
      | 1 => Q .rt (fun t => (ρc t).shr) σe
      | k + 2 => Q (.ex k) (fun t => (ρc t).shr) σe)
    (lp : Nat) (L : Ic → Post → Env → St → Prop) (hL : LRule (CY Tryz.prog G lp Y) L) :
    ir68.body.wp (CY Tryz.prog G lp Y) L (ItPost Q ρc) (envOf [.clo (ynum + lp) [] [], .ptr b2 0]) σ := by
  simp only [ir68]
  repeat' (first | simp (maxSteps := 1000000) (disch := omega) only [rb0, rb1, rb2, rb3, rb4, rb5, Od.ev, Ao.dst, Nat.reduceEqDiff, ↓reduceIte, reduceIte, reduceCtorEq, Nat.reduceAdd, Nat.reduceLeDiff, Nat.reduceSub, Int.reduceToNat, byt, Nat.reduceBEq] | with_reducible refine lw_of (fun _ => ?_) | with_reducible exact True.intro | with_reducible refine fin_same ?_ | with_reducible refine fin_loc ?_ ?_ ?_ | with_reducible exact Loc.refl _ | with_reducible refine Loc.push ?_ _ _ | with_reducible refine Loc.set ?_ _ _ (by first | omega | (simp only [push_n, set_n]; omega)) | with_reducible refine And.intro (by omega) ?_)
  refine hL _ _ (fun n ρ' σ' => ∃ (k : Nat) (d : List (Nat × List Row)), n = l.length + 1 - k ∧ k ≤ l.length + 1 ∧ J d σ' ∧ (d ++ if k ≤ l.length then eachN (l.length - k + 1) k (l.drop k) else []) = eachL l ∧ ρ' 0 = .clo (ynum + lp) [] [] ∧ ρ' 1 = .ptr b2 0 ∧ ρ' 3 = .int .i64 k) ?_ (l.length + 1) _ _
    ⟨0, [], rfl, by omega, h0, by simp [eachL], by simp (maxSteps := 1000000) (disch := omega) only [rb0, rb1, rb2, rb3, rb4, rb5, Od.ev, Ao.dst, Nat.reduceEqDiff, ↓reduceIte, reduceIte, reduceCtorEq, Nat.reduceAdd, Nat.reduceLeDiff, Nat.reduceSub, Int.reduceToNat, byt, Nat.reduceBEq], by simp (maxSteps := 1000000) (disch := omega) only [rb0, rb1, rb2, rb3, rb4, rb5, Od.ev, Ao.dst, Nat.reduceEqDiff, ↓reduceIte, reduceIte, reduceCtorEq, Nat.reduceAdd, Nat.reduceLeDiff, Nat.reduceSub, Int.reduceToNat, byt, Nat.reduceBEq], by simp (maxSteps := 1000000) (disch := omega) only [rb0, rb1, rb2, rb3, rb4, rb5, Od.ev, Ao.dst, Nat.reduceEqDiff, ↓reduceIte, reduceIte, reduceCtorEq, Nat.reduceAdd, Nat.reduceLeDiff, Nat.reduceSub, Int.reduceToNat, byt, Nat.reduceBEq]⟩
  rintro n ρ' σ' ⟨k, d, rfl, hk, hJd, hd, e0, e1, e3⟩
  obtain ⟨hm2, hk0⟩ := hJ d σ' hJd
  repeat' (first | simp (maxSteps := 1000000) (disch := omega) only [rb0, rb1, rb2, rb3, rb4, rb5, Od.ev, Ao.dst, Nat.reduceEqDiff, ↓reduceIte, reduceIte, reduceCtorEq, Nat.reduceAdd, Nat.reduceLeDiff, Nat.reduceSub, Int.reduceToNat, byt, Nat.reduceBEq, e0, e1, e3, hm2, rows_size] | with_reducible refine lw_of (fun _ => ?_) | with_reducible exact True.intro | with_reducible refine fin_same ?_ | with_reducible refine fin_loc ?_ ?_ ?_ | with_reducible exact Loc.refl _ | with_reducible refine Loc.push ?_ _ _ | with_reducible refine Loc.set ?_ _ _ (by first | omega | (simp only [push_n, set_n]; omega)) | with_reducible refine And.intro (by omega) ?_)
  refine bw_dec (fun h => ?_) (fun h => ?_)
  · have hkl : k ≤ l.length := by omega
    rw [if_pos hkl] at hd
    repeat' (first | simp (maxSteps := 1000000) (disch := omega) only [rb0, rb1, rb2, rb3, rb4, rb5, Od.ev, Ao.dst, Nat.reduceEqDiff, ↓reduceIte, reduceIte, reduceCtorEq, Nat.reduceAdd, Nat.reduceLeDiff, Nat.reduceSub, Int.reduceToNat, byt, Nat.reduceBEq, e0, e1, e3, hm2, rows_size, rows_len, rows_drop, rows_take] | with_reducible refine lw_of (fun _ => ?_) | with_reducible exact True.intro | with_reducible refine fin_same ?_ | with_reducible refine fin_loc ?_ ?_ ?_ | with_reducible exact Loc.refl _ | with_reducible refine Loc.push ?_ _ _ | with_reducible refine Loc.set ?_ _ _ (by first | omega | (simp only [push_n, set_n]; omega)) | with_reducible refine And.intro (by omega) ?_)
    refine cw_of (cy_of (k69 _ (l.drop k) 70 [] [] isMark fun r => k70 _ r) rfl) ?_
    rw [idx_mk]
    have hmk := mk1_le (l.drop k)
    have hdl : (l.drop k).length = l.length - k := by simp
    obtain ⟨m, hm⟩ : ∃ m, mk1 (l.drop k) = m := ⟨_, rfl⟩
    rw [hm] at hmk ⊢
    have hw1 : IntKind.i64.wrap ((k : Int) + (m : Int)) = (k : Int) + (m : Int) := wrap64 (by omega)
    have hw2 : IntKind.i64.wrap ((m : Int) + 1) = (m : Int) + 1 := wrap64 (by omega)
    have hw3 : IntKind.i64.wrap ((k : Int) + ((m : Int) + 1)) = (k : Int) + ((m : Int) + 1) := wrap64 (by omega)
    have ht1 : ((k : Int) + (m : Int)).toNat = k + m := by omega
    have hpart : (l.take (k + m)).drop k = (l.drop k).take m := by rw [List.drop_take]; simp
    have hstep : eachN (l.length - k + 1) k (l.drop k) = (if k > 0 || ((l.drop k).take m).any (fun r => !r.empty) then [(k, (l.drop k).take m)] else []) ++ (if k + m + 1 ≤ l.length then eachN (l.length - (k + m + 1) + 1) (k + m + 1) (l.drop (k + m + 1)) else []) := by
      have h1 : eachN (l.length - k + 1) k (l.drop k) = (if k > 0 || ((l.drop k).take m).any (fun r => !r.empty) then [(k, (l.drop k).take m)] else []) ++ (if m < (l.drop k).length then eachN (l.length - k) (k + m + 1) ((l.drop k).drop (m + 1)) else []) := by rw [← hm]; rfl
      rw [h1]
      congr 1
      by_cases hml : m < (l.drop k).length
      · rw [if_pos hml, if_pos (by omega), List.drop_drop]
        rw [eachN_more (l.length - k) _ _ (by simp; omega)]
        have e : k + (m + 1) = k + m + 1 := by omega
        rw [e]
        congr 1
        simp
      · rw [if_neg hml, if_neg (by omega)]
    rw [hstep] at hd
    have next : ∀ (d' : List (Nat × List Row)) (σ1 : St), J d' σ1 → (d' ++ if k + m + 1 ≤ l.length then eachN (l.length - (k + m + 1) + 1) (k + m + 1) (l.drop (k + m + 1)) else []) = eachL l →
        ∃ n', n' < l.length + 1 - k ∧ ∃ (k' : Nat) (d : List (Nat × List Row)), n' = l.length + 1 - k' ∧ k' ≤ l.length + 1 ∧ J d σ1 ∧ (d ++ if k' ≤ l.length then eachN (l.length - k' + 1) k' (l.drop k') else []) = eachL l ∧ (k : Int) + ((m : Int) + 1) = (k' : Int) :=
      fun d' σ1 a1 a2 => ⟨_, by omega, k + m + 1, d', rfl, by omega, a1, a2, by omega⟩
    have hX : (if m < (l.drop k).length then (m : Int) else -1) = (if m < l.length - k then (m : Int) else -1) := by rw [hdl]
    rw [hX]
    clear hX hstep
    by_cases hml : m < l.length - k
    all_goals (first | rw [if_pos hml] | rw [if_neg hml])
    all_goals by_cases hk1 : 0 < k
    · have hd1 : d ++ (k, (l.drop k).take m) :: (if k + m + 1 ≤ l.length then eachN (l.length - (k + m + 1) + 1) (k + m + 1) (l.drop (k + m + 1)) else []) = eachL l := by rw [← hd]; simp [hk1]
      repeat' (first | simp (maxSteps := 1000000) (disch := omega) only [rb0, rb1, rb2, rb3, rb4, rb5, Od.ev, Ao.dst, Nat.reduceEqDiff, ↓reduceIte, reduceIte, reduceCtorEq, Nat.reduceAdd, Nat.reduceLeDiff, Nat.reduceSub, Int.reduceToNat, byt, Nat.reduceBEq, e0, e1, e3, hm2, rows_size, rows_len, rows_drop, rows_take, hw1, hw2, hw3, ht1, hpart, hk1] | with_reducible refine lw_of (fun _ => ?_) | with_reducible exact True.intro | with_reducible refine fin_same ?_ | with_reducible refine fin_loc ?_ ?_ ?_ | with_reducible exact Loc.refl _ | with_reducible refine Loc.push ?_ _ _ | with_reducible refine Loc.set ?_ _ _ (by first | omega | (simp only [push_n, set_n]; omega)) | with_reducible refine And.intro (by omega) ?_)
      rcases hY d (k, (l.drop k).take m) _ σ' hJd hd1 with ⟨σ1, hy, hJ1⟩ | ⟨σ1, hy, hst⟩
      · refine cw_of (cy_yield hy) ?_
        repeat' (first | simp (maxSteps := 1000000) (disch := omega) only [rb0, rb1, rb2, rb3, rb4, rb5, Od.ev, Ao.dst, Nat.reduceEqDiff, ↓reduceIte, reduceIte, reduceCtorEq, Nat.reduceAdd, Nat.reduceLeDiff, Nat.reduceSub, Int.reduceToNat, byt, Nat.reduceBEq, e0, e1, e3, hw2, hw3, hk1] | with_reducible refine lw_of (fun _ => ?_) | with_reducible exact True.intro | with_reducible refine fin_same ?_ | with_reducible refine fin_loc ?_ ?_ ?_ | with_reducible exact Loc.refl _ | with_reducible refine Loc.push ?_ _ _ | with_reducible refine Loc.set ?_ _ _ (by first | omega | (simp only [push_n, set_n]; omega)) | with_reducible refine And.intro (by omega) ?_)
        exact next (d ++ [(k, (l.drop k).take m)]) _ hJ1 (by rw [← hd1]; simp)
      · refine cw_of (cy_yield hy) ?_
        repeat' (first | simp (maxSteps := 1000000) (disch := omega) only [rb0, rb1, rb2, rb3, rb4, rb5, Od.ev, Ao.dst, Nat.reduceEqDiff, ↓reduceIte, reduceIte, reduceCtorEq, Nat.reduceAdd, Nat.reduceLeDiff, Nat.reduceSub, Int.reduceToNat, byt, Nat.reduceBEq, e0, e1, e3, hw2, hw3, hk1] | with_reducible refine lw_of (fun _ => ?_) | with_reducible exact True.intro | with_reducible refine fin_same ?_ | with_reducible refine fin_loc ?_ ?_ ?_ | with_reducible exact Loc.refl _ | with_reducible refine Loc.push ?_ _ _ | with_reducible refine Loc.set ?_ _ _ (by first | omega | (simp only [push_n, set_n]; omega)) | with_reducible refine And.intro (by omega) ?_)
        exact ⟨.inr rfl, hfin σ1 (.inr hst)⟩
    · repeat' (first | simp (maxSteps := 1000000) (disch := omega) only [rb0, rb1, rb2, rb3, rb4, rb5, Od.ev, Ao.dst, Nat.reduceEqDiff, ↓reduceIte, reduceIte, reduceCtorEq, Nat.reduceAdd, Nat.reduceLeDiff, Nat.reduceSub, Int.reduceToNat, byt, Nat.reduceBEq, e0, e1, e3, hm2, rows_size, rows_len, rows_drop, rows_take, hw1, hw2, hw3, ht1, hpart, hk1] | with_reducible refine lw_of (fun _ => ?_) | with_reducible exact True.intro | with_reducible refine fin_same ?_ | with_reducible refine fin_loc ?_ ?_ ?_ | with_reducible exact Loc.refl _ | with_reducible refine Loc.push ?_ _ _ | with_reducible refine Loc.set ?_ _ _ (by first | omega | (simp only [push_n, set_n]; omega)) | with_reducible refine And.intro (by omega) ?_)
      refine cw_of (cy_of (k71 _ ((l.drop k).take m) 72 [] [] (fun r => !r.empty) fun r => k72 _ r) rfl) ?_
      by_cases hany : ((l.drop k).take m).any (fun r => !r.empty) = true
      · have hd1 : d ++ (k, (l.drop k).take m) :: (if k + m + 1 ≤ l.length then eachN (l.length - (k + m + 1) + 1) (k + m + 1) (l.drop (k + m + 1)) else []) = eachL l := by rw [← hd, hany]; simp
        rw [hany]
        repeat' (first | simp (maxSteps := 1000000) (disch := omega) only [rb0, rb1, rb2, rb3, rb4, rb5, Od.ev, Ao.dst, Nat.reduceEqDiff, ↓reduceIte, reduceIte, reduceCtorEq, Nat.reduceAdd, Nat.reduceLeDiff, Nat.reduceSub, Int.reduceToNat, byt, Nat.reduceBEq, e0, e1, e3, hm2, hw2, hw3] | with_reducible refine lw_of (fun _ => ?_) | with_reducible exact True.intro | with_reducible refine fin_same ?_ | with_reducible refine fin_loc ?_ ?_ ?_ | with_reducible exact Loc.refl _ | with_reducible refine Loc.push ?_ _ _ | with_reducible refine Loc.set ?_ _ _ (by first | omega | (simp only [push_n, set_n]; omega)) | with_reducible refine And.intro (by omega) ?_)
        rcases hY d (k, (l.drop k).take m) _ σ' hJd hd1 with ⟨σ1, hy, hJ1⟩ | ⟨σ1, hy, hst⟩
        · refine cw_of (cy_yield hy) ?_
          repeat' (first | simp (maxSteps := 1000000) (disch := omega) only [rb0, rb1, rb2, rb3, rb4, rb5, Od.ev, Ao.dst, Nat.reduceEqDiff, ↓reduceIte, reduceIte, reduceCtorEq, Nat.reduceAdd, Nat.reduceLeDiff, Nat.reduceSub, Int.reduceToNat, byt, Nat.reduceBEq, e0, e1, e3, hw2, hw3, hk1] | with_reducible refine lw_of (fun _ => ?_) | with_reducible exact True.intro | with_reducible refine fin_same ?_ | with_reducible refine fin_loc ?_ ?_ ?_ | with_reducible exact Loc.refl _ | with_reducible refine Loc.push ?_ _ _ | with_reducible refine Loc.set ?_ _ _ (by first | omega | (simp only [push_n, set_n]; omega)) | with_reducible refine And.intro (by omega) ?_)
          exact next (d ++ [(k, (l.drop k).take m)]) _ hJ1 (by rw [← hd1]; simp)
        · refine cw_of (cy_yield hy) ?_
          repeat' (first | simp (maxSteps := 1000000) (disch := omega) only [rb0, rb1, rb2, rb3, rb4, rb5, Od.ev, Ao.dst, Nat.reduceEqDiff, ↓reduceIte, reduceIte, reduceCtorEq, Nat.reduceAdd, Nat.reduceLeDiff, Nat.reduceSub, Int.reduceToNat, byt, Nat.reduceBEq, e0, e1, e3, hw2, hw3, hk1] | with_reducible refine lw_of (fun _ => ?_) | with_reducible exact True.intro | with_reducible refine fin_same ?_ | with_reducible refine fin_loc ?_ ?_ ?_ | with_reducible exact Loc.refl _ | with_reducible refine Loc.push ?_ _ _ | with_reducible refine Loc.set ?_ _ _ (by first | omega | (simp only [push_n, set_n]; omega)) | with_reducible refine And.intro (by omega) ?_)
          exact ⟨.inr rfl, hfin σ1 (.inr hst)⟩
      · have hany' : ((l.drop k).take m).any (fun r => !r.empty) = false := by simpa using hany
        rw [hany'] at hd ⊢
        repeat' (first | simp (maxSteps := 1000000) (disch := omega) only [rb0, rb1, rb2, rb3, rb4, rb5, Od.ev, Ao.dst, Nat.reduceEqDiff, ↓reduceIte, reduceIte, reduceCtorEq, Nat.reduceAdd, Nat.reduceLeDiff, Nat.reduceSub, Int.reduceToNat, byt, Nat.reduceBEq, e0, e1, e3, hm2, hw2, hw3] | with_reducible refine lw_of (fun _ => ?_) | with_reducible exact True.intro | with_reducible refine fin_same ?_ | with_reducible refine fin_loc ?_ ?_ ?_ | with_reducible exact Loc.refl _ | with_reducible refine Loc.push ?_ _ _ | with_reducible refine Loc.set ?_ _ _ (by first | omega | (simp only [push_n, set_n]; omega)) | with_reducible refine And.intro (by omega) ?_)
        exact next d _ hJd (by rw [← hd]; simp [hk1])
    · have hw4 : IntKind.i64.wrap ((l.length : Int) - (k : Int)) = (m : Int) := by rw [wrap64 (by omega)]; omega
      have hd1 : d ++ (k, (l.drop k).take m) :: (if k + m + 1 ≤ l.length then eachN (l.length - (k + m + 1) + 1) (k + m + 1) (l.drop (k + m + 1)) else []) = eachL l := by rw [← hd]; simp [hk1]
      repeat' (first | simp (maxSteps := 1000000) (disch := omega) only [rb0, rb1, rb2, rb3, rb4, rb5, Od.ev, Ao.dst, Nat.reduceEqDiff, ↓reduceIte, reduceIte, reduceCtorEq, Nat.reduceAdd, Nat.reduceLeDiff, Nat.reduceSub, Int.reduceToNat, byt, Nat.reduceBEq, e0, e1, e3, hm2, rows_size, rows_len, rows_drop, rows_take, hw1, hw2, hw3, ht1, hpart, hk1, hw4] | with_reducible refine lw_of (fun _ => ?_) | with_reducible exact True.intro | with_reducible refine fin_same ?_ | with_reducible refine fin_loc ?_ ?_ ?_ | with_reducible exact Loc.refl _ | with_reducible refine Loc.push ?_ _ _ | with_reducible refine Loc.set ?_ _ _ (by first | omega | (simp only [push_n, set_n]; omega)) | with_reducible refine And.intro (by omega) ?_)
      rcases hY d (k, (l.drop k).take m) _ σ' hJd hd1 with ⟨σ1, hy, hJ1⟩ | ⟨σ1, hy, hst⟩
      · refine cw_of (cy_yield hy) ?_
        repeat' (first | simp (maxSteps := 1000000) (disch := omega) only [rb0, rb1, rb2, rb3, rb4, rb5, Od.ev, Ao.dst, Nat.reduceEqDiff, ↓reduceIte, reduceIte, reduceCtorEq, Nat.reduceAdd, Nat.reduceLeDiff, Nat.reduceSub, Int.reduceToNat, byt, Nat.reduceBEq, e0, e1, e3, hw2, hw3, hk1] | with_reducible refine lw_of (fun _ => ?_) | with_reducible exact True.intro | with_reducible refine fin_same ?_ | with_reducible refine fin_loc ?_ ?_ ?_ | with_reducible exact Loc.refl _ | with_reducible refine Loc.push ?_ _ _ | with_reducible refine Loc.set ?_ _ _ (by first | omega | (simp only [push_n, set_n]; omega)) | with_reducible refine And.intro (by omega) ?_)
        exact next (d ++ [(k, (l.drop k).take m)]) _ hJ1 (by rw [← hd1]; simp)
      · refine cw_of (cy_yield hy) ?_
        repeat' (first | simp (maxSteps := 1000000) (disch := omega) only [rb0, rb1, rb2, rb3, rb4, rb5, Od.ev, Ao.dst, Nat.reduceEqDiff, ↓reduceIte, reduceIte, reduceCtorEq, Nat.reduceAdd, Nat.reduceLeDiff, Nat.reduceSub, Int.reduceToNat, byt, Nat.reduceBEq, e0, e1, e3, hw2, hw3, hk1] | with_reducible refine lw_of (fun _ => ?_) | with_reducible exact True.intro | with_reducible refine fin_same ?_ | with_reducible refine fin_loc ?_ ?_ ?_ | with_reducible exact Loc.refl _ | with_reducible refine Loc.push ?_ _ _ | with_reducible refine Loc.set ?_ _ _ (by first | omega | (simp only [push_n, set_n]; omega)) | with_reducible refine And.intro (by omega) ?_)
        exact ⟨.inr rfl, hfin σ1 (.inr hst)⟩
    · have hw4 : IntKind.i64.wrap ((l.length : Int) - (k : Int)) = (m : Int) := by rw [wrap64 (by omega)]; omega
      repeat' (first | simp (maxSteps := 1000000) (disch := omega) only [rb0, rb1, rb2, rb3, rb4, rb5, Od.ev, Ao.dst, Nat.reduceEqDiff, ↓reduceIte, reduceIte, reduceCtorEq, Nat.reduceAdd, Nat.reduceLeDiff, Nat.reduceSub, Int.reduceToNat, byt, Nat.reduceBEq, e0, e1, e3, hm2, rows_size, rows_len, rows_drop, rows_take, hw1, hw2, hw3, ht1, hpart, hk1, hw4] | with_reducible refine lw_of (fun _ => ?_) | with_reducible exact True.intro | with_reducible refine fin_same ?_ | with_reducible refine fin_loc ?_ ?_ ?_ | with_reducible exact Loc.refl _ | with_reducible refine Loc.push ?_ _ _ | with_reducible refine Loc.set ?_ _ _ (by first | omega | (simp only [push_n, set_n]; omega)) | with_reducible refine And.intro (by omega) ?_)
      refine cw_of (cy_of (k71 _ ((l.drop k).take m) 72 [] [] (fun r => !r.empty) fun r => k72 _ r) rfl) ?_
      by_cases hany : ((l.drop k).take m).any (fun r => !r.empty) = true
      · have hd1 : d ++ (k, (l.drop k).take m) :: (if k + m + 1 ≤ l.length then eachN (l.length - (k + m + 1) + 1) (k + m + 1) (l.drop (k + m + 1)) else []) = eachL l := by rw [← hd, hany]; simp
        rw [hany]
        repeat' (first | simp (maxSteps := 1000000) (disch := omega) only [rb0, rb1, rb2, rb3, rb4, rb5, Od.ev, Ao.dst, Nat.reduceEqDiff, ↓reduceIte, reduceIte, reduceCtorEq, Nat.reduceAdd, Nat.reduceLeDiff, Nat.reduceSub, Int.reduceToNat, byt, Nat.reduceBEq, e0, e1, e3, hm2, hw2, hw3] | with_reducible refine lw_of (fun _ => ?_) | with_reducible exact True.intro | with_reducible refine fin_same ?_ | with_reducible refine fin_loc ?_ ?_ ?_ | with_reducible exact Loc.refl _ | with_reducible refine Loc.push ?_ _ _ | with_reducible refine Loc.set ?_ _ _ (by first | omega | (simp only [push_n, set_n]; omega)) | with_reducible refine And.intro (by omega) ?_)
        rcases hY d (k, (l.drop k).take m) _ σ' hJd hd1 with ⟨σ1, hy, hJ1⟩ | ⟨σ1, hy, hst⟩
        · refine cw_of (cy_yield hy) ?_
          repeat' (first | simp (maxSteps := 1000000) (disch := omega) only [rb0, rb1, rb2, rb3, rb4, rb5, Od.ev, Ao.dst, Nat.reduceEqDiff, ↓reduceIte, reduceIte, reduceCtorEq, Nat.reduceAdd, Nat.reduceLeDiff, Nat.reduceSub, Int.reduceToNat, byt, Nat.reduceBEq, e0, e1, e3, hw2, hw3, hk1] | with_reducible refine lw_of (fun _ => ?_) | with_reducible exact True.intro | with_reducible refine fin_same ?_ | with_reducible refine fin_loc ?_ ?_ ?_ | with_reducible exact Loc.refl _ | with_reducible refine Loc.push ?_ _ _ | with_reducible refine Loc.set ?_ _ _ (by first | omega | (simp only [push_n, set_n]; omega)) | with_reducible refine And.intro (by omega) ?_)
          exact next (d ++ [(k, (l.drop k).take m)]) _ hJ1 (by rw [← hd1]; simp)
        · refine cw_of (cy_yield hy) ?_
          repeat' (first | simp (maxSteps := 1000000) (disch := omega) only [rb0, rb1, rb2, rb3, rb4, rb5, Od.ev, Ao.dst, Nat.reduceEqDiff, ↓reduceIte, reduceIte, reduceCtorEq, Nat.reduceAdd, Nat.reduceLeDiff, Nat.reduceSub, Int.reduceToNat, byt, Nat.reduceBEq, e0, e1, e3, hw2, hw3, hk1] | with_reducible refine lw_of (fun _ => ?_) | with_reducible exact True.intro | with_reducible refine fin_same ?_ | with_reducible refine fin_loc ?_ ?_ ?_ | with_reducible exact Loc.refl _ | with_reducible refine Loc.push ?_ _ _ | with_reducible refine Loc.set ?_ _ _ (by first | omega | (simp only [push_n, set_n]; omega)) | with_reducible refine And.intro (by omega) ?_)
          exact ⟨.inr rfl, hfin σ1 (.inr hst)⟩
      · have hany' : ((l.drop k).take m).any (fun r => !r.empty) = false := by simpa using hany
        rw [hany'] at hd ⊢
        repeat' (first | simp (maxSteps := 1000000) (disch := omega) only [rb0, rb1, rb2, rb3, rb4, rb5, Od.ev, Ao.dst, Nat.reduceEqDiff, ↓reduceIte, reduceIte, reduceCtorEq, Nat.reduceAdd, Nat.reduceLeDiff, Nat.reduceSub, Int.reduceToNat, byt, Nat.reduceBEq, e0, e1, e3, hm2, hw2, hw3] | with_reducible refine lw_of (fun _ => ?_) | with_reducible exact True.intro | with_reducible refine fin_same ?_ | with_reducible refine fin_loc ?_ ?_ ?_ | with_reducible exact Loc.refl _ | with_reducible refine Loc.push ?_ _ _ | with_reducible refine Loc.set ?_ _ _ (by first | omega | (simp only [push_n, set_n]; omega)) | with_reducible refine And.intro (by omega) ?_)
        exact next d _ hJd (by rw [← hd]; simp [hk1])
  · repeat' (first | simp (maxSteps := 1000000) (disch := omega) only [rb0, rb1, rb2, rb3, rb4, rb5, Od.ev, Ao.dst, Nat.reduceEqDiff, ↓reduceIte, reduceIte, reduceCtorEq, Nat.reduceAdd, Nat.reduceLeDiff, Nat.reduceSub, Int.reduceToNat, byt, Nat.reduceBEq, e0, e1, e3, hm2, rows_size] | with_reducible refine lw_of (fun _ => ?_) | with_reducible exact True.intro | with_reducible refine fin_same ?_ | with_reducible refine fin_loc ?_ ?_ ?_ | with_reducible exact Loc.refl _ | with_reducible refine Loc.push ?_ _ _ | with_reducible refine Loc.set ?_ _ _ (by first | omega | (simp only [push_n, set_n]; omega)) | with_reducible refine And.intro (by omega) ?_)
    rw [if_neg (by omega)] at hd
    refine ⟨.inl rfl, ?_⟩
    refine hfin σ' (.inl ?_)
    rw [← hd]; simpa using hJd
end Gx

/- Part E2. -/
/- load.Parts. -/
set_option linter.unusedSimpArgs false
set_option linter.unusedVariables false
namespace Gx
open Go Go.Proofs Go.RowKit
variable {G : Nat → Option Obj}
def partPv (x : List Row) : Pv := .sl false (rowsPv x)
def parts (l : List Row) : List (List Row) := (eachL l).map (·.2)
theorem eachN_len : ∀ (n k : Nat) (l : List Row), (eachN n k l).length ≤ n
  | 0, k, l => by simp [eachN]
  | n + 1, k, l => by
    simp only [eachN, List.length_append]
    have h1 : (if k > 0 || (l.take (mk1 l)).any (fun r => !r.empty) then [(k, l.take (mk1 l))] else []).length ≤ 1 := by split <;> simp
    have h2 : (if mk1 l < l.length then eachN n (k + mk1 l + 1) (l.drop (mk1 l + 1)) else []).length ≤ n := by
      split
      · exact eachN_len n _ _
      · simp
    omega
theorem parts_ok (l : List (List Row)) : ∀ y ∈ l.map partPv, y.cells.length = 1 ∧ elOk 33 y := by
  intro y hy
  obtain ⟨s, _, rfl⟩ := List.mem_map.1 hy
  exact ⟨rfl, by simp [elOk, Pv.isU8, partPv, byt33]⟩
theorem clean_row (n : Nat) (r : Row) : clean n r.pv = true := by simp [Row.pv, clean, cleanL]
theorem clean_rows (n : Nat) (l : List Row) : cleanL n (rowsPv l) = true := by
  rw [cleanL_iff]
  intro x hx
  obtain ⟨s, _, rfl⟩ := List.mem_map.1 hx
  exact clean_row n s
theorem clean_parts (n : Nat) (l : List (List Row)) : cleanL n (l.map partPv) = true := by
  rw [cleanL_iff]
  intro x hx
  obtain ⟨s, _, rfl⟩ := List.mem_map.1 hx
  exact clean_rows n s

theorem k30 (σ : St) (l : List Row) (hs : l.length < 2 ^ 32 - 1) : ARet Tryz.prog G 30 [.sl false (rowsPv l)] σ (.sl false ((parts l).map partPv)) σ := by
  refine aret_marks (Nat.le_of_ble_eq_true rfl) Tryz.func30 (by kernel_rfl) hb30 (by rw [Tryz.ntmps30]; exact er30) (by rw [Tryz.ntmps30]; exact Nat.le_of_ble_eq_true rfl) (fun F g w a hG hA => ?_)
  rw [Tryz.ntmps30] at hA ⊢
  rw [c30_eq]
  refine seq_pl e30_0 (Q := Done r30 σ (.sl false ((parts l).map partPv)) σ) (fun e a w _ h => .inl h) hG hA ?_
  simp only [i30_0]
  repeat' (first | simp (maxSteps := 1000000) (disch := omega) only [rb0, rb1, rb2, rb3, rb4, rb5, Od.ev, Ao.dst, Nat.reduceEqDiff, ↓reduceIte, reduceIte, reduceCtorEq, Nat.reduceAdd, Nat.reduceLeDiff, Nat.reduceSub, Int.reduceToNat, byt, Nat.reduceBEq] | with_reducible refine lw_of (fun _ => ?_) | with_reducible exact True.intro | with_reducible refine fin_same ?_ | with_reducible refine fin_loc ?_ ?_ ?_ | with_reducible exact Loc.refl _ | with_reducible refine Loc.push ?_ _ _ | with_reducible refine Loc.set ?_ _ _ (by first | omega | (simp only [push_n, set_n]; omega)) | with_reducible refine And.intro (by omega) ?_)
  intro a1 w1 hA1
  refine seq_pl e30_1 (Q := Done r30 σ (.sl false ((parts l).map partPv)) σ) (fun e a w _ h => .inl h) hG hA1 ?_
  simp only [i30_1]
  repeat' (first | simp (maxSteps := 1000000) (disch := omega) only [rb0, rb1, rb2, rb3, rb4, rb5, Od.ev, Ao.dst, Nat.reduceEqDiff, ↓reduceIte, reduceIte, reduceCtorEq, Nat.reduceAdd, Nat.reduceLeDiff, Nat.reduceSub, Int.reduceToNat, byt, Nat.reduceBEq] | with_reducible refine lw_of (fun _ => ?_) | with_reducible exact True.intro | with_reducible refine fin_same ?_ | with_reducible refine fin_loc ?_ ?_ ?_ | with_reducible exact Loc.refl _ | with_reducible refine Loc.push ?_ _ _ | with_reducible refine Loc.set ?_ _ _ (by first | omega | (simp only [push_n, set_n]; omega)) | with_reducible refine And.intro (by omega) ?_)
  intro a2 w2 hA2
  refine wp_seq (seq_pl e30_2 (Q := Done r30 σ (.sl false ((parts l).map partPv)) σ) (fun e a w hne h => ?_) hG hA2 ?_)
  · cases e with
    | normal => exact absurd rfl hne
    | _ => exact .inl h
  simp only [i30_2]
  repeat' (first | simp (maxSteps := 1000000) (disch := omega) only [rb0, rb1, rb2, rb3, rb4, rb5, Od.ev, Ao.dst, Nat.reduceEqDiff, ↓reduceIte, reduceIte, reduceCtorEq, Nat.reduceAdd, Nat.reduceLeDiff, Nat.reduceSub, Int.reduceToNat, byt, Nat.reduceBEq] | with_reducible refine lw_of (fun _ => ?_) | with_reducible exact True.intro | with_reducible refine fin_same ?_ | with_reducible refine fin_loc ?_ ?_ ?_ | with_reducible exact Loc.refl _ | with_reducible refine Loc.push ?_ _ _ | with_reducible refine Loc.set ?_ _ _ (by first | omega | (simp only [push_n, set_n]; omega)) | with_reducible refine And.intro (by omega) ?_ | with_reducible refine cw_of (k40 _ _) ?_)
  intro a3 w3 hA3
  refine rf_mid (god := .t 7) rfl ea30 eb30 ez30 na30 nb30 (gf := 68) (caps := [.ptr (σ.push 52 [.sl true []]).n 0]) (by simp (maxSteps := 1000000) (disch := omega) only [rb0, rb1, rb2, rb3, rb4, rb5, Od.ev, Ao.dst, Nat.reduceEqDiff, ↓reduceIte, reduceIte, reduceCtorEq, Nat.reduceAdd, Nat.reduceLeDiff, Nat.reduceSub, Int.reduceToNat, byt, Nat.reduceBEq]) (Nat.le_of_ble_eq_true rfl) Tryz.func68 (by kernel_rfl) hbi68 (by rw [Tryz.ntmps68]; exact eci68) (by rw [Tryz.ntmps68]; exact oki68) rfl (by rw [Tryz.ntmps68]; exact Nat.le_of_ble_eq_true rfl)
    (fun lp L hL => ?_) hG hA3 (fun e a w h => .inr h)
  refine it68 (b2 := σ.n + 1) (σ := ((σ.push 52 [Pv.sl true []]).push 33 [Pv.sl false (rowsPv l)]).at 0) l (by omega)
    (fun d σ' => Two σ σ' σ.n (σ.n + 1) (.sl true ((d.map (·.2)).map partPv)) (.sl false (rowsPv l))) (fun _ => False) (fun d σ' h => ⟨h.m2, h.k⟩) (fun _ h => h.elim) (fun d x r σ' h hd => .inl ?_)
    ⟨rfl, (show Loc σ (((σ.push 52 [Pv.sl true []]).push 33 [Pv.sl false (rowsPv l)]).at 0) from Loc.push (Loc.push (Loc.refl σ) _ _) _ _), by simp [St.at, St.push], by simp [St.at, St.push], by simp [St.at, St.push], by simp [St.at, St.push], Nat.le_refl _, by simp [St.push], by simp [St.push]⟩
    (fun σe h => ?_) lp L hL
  · refine ⟨_, body30 σ' _ σ.n _ _ ((d.map (·.2)).map partPv) (by simp (maxSteps := 1000000) (disch := omega) only [rb0, rb1, rb2, rb3, rb4, rb5, Od.ev, Ao.dst, Nat.reduceEqDiff, ↓reduceIte, reduceIte, reduceCtorEq, Nat.reduceAdd, Nat.reduceLeDiff, Nat.reduceSub, Int.reduceToNat, byt, Nat.reduceBEq]) h.k h.m1 h.r1 ?_ (parts_ok _), ?_⟩
    · have h1 := congrArg List.length hd
      have h2 := eachN_len (l.length + 1) 0 l
      simp only [List.length_append, List.length_cons, eachL, List.length_map] at h1 ⊢
      omega
    · have := h.set1 (.sl true ((d.map (·.2)).map partPv ++ [.sl false (rowsPv x.2)]))
      simpa [partPv] using this
  · rcases h with h | h
    · rw [h.k]
      simp only
      rw [q_blk_nx, q_then]
      have hm1 := h.m1
      simp only [iz30, r30]
      repeat' (first | simp (maxSteps := 1000000) (disch := omega) only [rb0, rb1, rb2, rb3, rb4, rb5, Od.ev, Ao.dst, Nat.reduceEqDiff, ↓reduceIte, reduceIte, reduceCtorEq, Nat.reduceAdd, Nat.reduceLeDiff, Nat.reduceSub, Int.reduceToNat, byt, Nat.reduceBEq, hm1, D_rt] | with_reducible refine lw_of (fun _ => ?_) | with_reducible exact True.intro | with_reducible refine fin_same ?_ | with_reducible refine fin_loc ?_ ?_ ?_ | with_reducible exact Loc.refl _ | with_reducible refine Loc.push ?_ _ _ | with_reducible refine Loc.set ?_ _ _ (by first | omega | (simp only [push_n, set_n]; omega)) | with_reducible refine And.intro (by omega) ?_)
      all_goals first
        | rfl
        | exact h.loc
        | exact clean_parts _ _
    · exact h.elim
end Gx

/- Part K8. -/
/- References of layers 2 and 11 over rows. -/
set_option linter.unusedSimpArgs false
set_option linter.unusedVariables false
namespace Gx
open Go Go.Proofs Go.RowKit
variable {G : Nat → Option Obj}
theorem k28 (σ : St) (r : Row) : ARet Tryz.prog G 28 [r.pv] σ (.bool r.empty) σ := by
  refine ret_of has28 (Nat.le_of_ble_eq_true rfl) ?_
  simp only [ir28, Row.pv, Row.empty]
  cases ht : r.text with
  | nil =>
    repeat' (first | simp (maxSteps := 1000000) (disch := omega) only [rb0, rb1, rb2, rb3, rb4, rb5, Od.ev, Ao.dst, Nat.reduceEqDiff, ↓reduceIte, reduceIte, reduceCtorEq, Nat.reduceAdd, Nat.reduceLeDiff, Nat.reduceSub, Int.reduceToNat, byt, Nat.reduceBEq, ht] | with_reducible refine lw_of (fun _ => ?_) | with_reducible exact True.intro | with_reducible refine fin_same ?_ | with_reducible refine fin_loc ?_ ?_ ?_ | with_reducible exact Loc.refl _ | with_reducible refine Loc.push ?_ _ _ | with_reducible refine Loc.set ?_ _ _ (by first | omega | (simp only [push_n, set_n]; omega)) | with_reducible refine And.intro (by omega) ?_)
  | cons c t =>
    repeat' (first | simp (maxSteps := 1000000) (disch := omega) only [rb0, rb1, rb2, rb3, rb4, rb5, Od.ev, Ao.dst, Nat.reduceEqDiff, ↓reduceIte, reduceIte, reduceCtorEq, Nat.reduceAdd, Nat.reduceLeDiff, Nat.reduceSub, Int.reduceToNat, byt, Nat.reduceBEq, ht] | with_reducible refine lw_of (fun _ => ?_) | with_reducible exact True.intro | with_reducible refine fin_same ?_ | with_reducible refine fin_loc ?_ ?_ ?_ | with_reducible exact Loc.refl _ | with_reducible refine Loc.push ?_ _ _ | with_reducible refine Loc.set ?_ _ _ (by first | omega | (simp only [push_n, set_n]; omega)) | with_reducible refine And.intro (by omega) ?_)
    by_cases h : c = 35
    · subst h; rfl
    · have h' : ¬ (c.toNat : Int) = 35 := fun e => h (by have := (u8eq c 35).mp e; exact this)
      simp [h, h']
theorem k58 (σ : St) (r : Row) : ARet Tryz.prog G 58 [r.pv] σ (.bool (isMark r)) σ := by
  refine ret_of has58 (Nat.le_of_ble_eq_true rfl) ?_
  simp only [ir58, Row.pv, isMark]
  by_cases h : r.col = 0
  · repeat' (first | simp (maxSteps := 1000000) (disch := omega) only [rb0, rb1, rb2, rb3, rb4, rb5, Od.ev, Ao.dst, Nat.reduceEqDiff, ↓reduceIte, reduceIte, reduceCtorEq, Nat.reduceAdd, Nat.reduceLeDiff, Nat.reduceSub, Int.reduceToNat, byt, Nat.reduceBEq, h] | with_reducible refine lw_of (fun _ => ?_) | with_reducible exact True.intro | with_reducible refine fin_same ?_ | with_reducible refine fin_loc ?_ ?_ ?_ | with_reducible exact Loc.refl _ | with_reducible refine Loc.push ?_ _ _ | with_reducible refine Loc.set ?_ _ _ (by first | omega | (simp only [push_n, set_n]; omega)) | with_reducible refine And.intro (by omega) ?_)
  · repeat' (first | simp (maxSteps := 1000000) (disch := omega) only [rb0, rb1, rb2, rb3, rb4, rb5, Od.ev, Ao.dst, Nat.reduceEqDiff, ↓reduceIte, reduceIte, reduceCtorEq, Nat.reduceAdd, Nat.reduceLeDiff, Nat.reduceSub, Int.reduceToNat, byt, Nat.reduceBEq, h] | with_reducible refine lw_of (fun _ => ?_) | with_reducible exact True.intro | with_reducible refine fin_same ?_ | with_reducible refine fin_loc ?_ ?_ ?_ | with_reducible exact Loc.refl _ | with_reducible refine Loc.push ?_ _ _ | with_reducible refine Loc.set ?_ _ _ (by first | omega | (simp only [push_n, set_n]; omega)) | with_reducible refine And.intro (by omega) ?_)
theorem k59 (σ : St) (l : List Row) : ARet Tryz.prog G 59 [.sl false (rowsPv l)] σ (.bool (l.any fun r => !r.empty)) σ := by
  refine ret_of has59 (Nat.le_of_ble_eq_true rfl) ?_
  simp only [ir59]
  repeat' (first | simp (maxSteps := 1000000) (disch := omega) only [rb0, rb1, rb2, rb3, rb4, rb5, Od.ev, Ao.dst, Nat.reduceEqDiff, ↓reduceIte, reduceIte, reduceCtorEq, Nat.reduceAdd, Nat.reduceLeDiff, Nat.reduceSub, Int.reduceToNat, byt, Nat.reduceBEq] | with_reducible refine lw_of (fun _ => ?_) | with_reducible exact True.intro | with_reducible refine fin_same ?_ | with_reducible refine fin_loc ?_ ?_ ?_ | with_reducible exact Loc.refl _ | with_reducible refine Loc.push ?_ _ _ | with_reducible refine Loc.set ?_ _ _ (by first | omega | (simp only [push_n, set_n]; omega)) | with_reducible refine And.intro (by omega) ?_)
  refine loop_rule (fun n ρ σ' => σ' = σ ∧ ∃ k : Nat, n = l.length - k ∧ k ≤ l.length ∧ ρ 0 = .sl false (rowsPv l) ∧ ρ 3 = .int .i64 k ∧ (l.any fun r => !r.empty) = (l.drop k).any fun r => !r.empty) (fun n ρ σ' hI => ?_) ⟨rfl, 0, rfl, by omega, rfl, rfl, rfl⟩
  obtain ⟨rfl, k, rfl, hle, h0, h3, ha⟩ := hI
  repeat' (first | simp (maxSteps := 1000000) (disch := omega) only [rb0, rb1, rb2, rb3, rb4, rb5, Od.ev, Ao.dst, Nat.reduceEqDiff, ↓reduceIte, reduceIte, reduceCtorEq, Nat.reduceAdd, Nat.reduceLeDiff, Nat.reduceSub, Int.reduceToNat, byt, Nat.reduceBEq, h0, h3, rows_size] | with_reducible refine lw_of (fun _ => ?_) | with_reducible exact True.intro | with_reducible refine fin_same ?_ | with_reducible refine fin_loc ?_ ?_ ?_ | with_reducible exact Loc.refl _ | with_reducible refine Loc.push ?_ _ _ | with_reducible refine Loc.set ?_ _ _ (by first | omega | (simp only [push_n, set_n]; omega)) | with_reducible refine And.intro (by omega) ?_)
  refine bw_dec (fun h => ?_) (fun h => ?_)
  · have hlt : k < l.length := by omega
    have hk : l[k]? = some l[k] := List.getElem?_eq_getElem hlt
    have hw : IntKind.i64.wrap ((k : Int) + 1) = (k : Int) + 1 := wrap64 (by omega)
    repeat' (first | simp (maxSteps := 1000000) (disch := omega) only [rb0, rb1, rb2, rb3, rb4, rb5, Od.ev, Ao.dst, Nat.reduceEqDiff, ↓reduceIte, reduceIte, reduceCtorEq, Nat.reduceAdd, Nat.reduceLeDiff, Nat.reduceSub, Int.reduceToNat, byt, Nat.reduceBEq, h0, h3, rows_at, hk, row_cells] | with_reducible refine lw_of (fun _ => ?_) | with_reducible exact True.intro | with_reducible refine fin_same ?_ | with_reducible refine fin_loc ?_ ?_ ?_ | with_reducible exact Loc.refl _ | with_reducible refine Loc.push ?_ _ _ | with_reducible refine Loc.set ?_ _ _ (by first | omega | (simp only [push_n, set_n]; omega)) | with_reducible refine And.intro (by omega) ?_)
    have := k28 (G := G) σ' l[k]
    simp only [Row.pv] at this
    refine cw_of this ?_
    have hd : l.drop k = l[k] :: l.drop (k + 1) := List.drop_eq_getElem_cons hlt
    rw [hd, List.any_cons] at ha
    cases he : l[k].empty with
    | true =>
      rw [he] at ha
      repeat' (first | simp (maxSteps := 1000000) (disch := omega) only [rb0, rb1, rb2, rb3, rb4, rb5, Od.ev, Ao.dst, Nat.reduceEqDiff, ↓reduceIte, reduceIte, reduceCtorEq, Nat.reduceAdd, Nat.reduceLeDiff, Nat.reduceSub, Int.reduceToNat, byt, Nat.reduceBEq, h0, h3, hw] | with_reducible refine lw_of (fun _ => ?_) | with_reducible exact True.intro | with_reducible refine fin_same ?_ | with_reducible refine fin_loc ?_ ?_ ?_ | with_reducible exact Loc.refl _ | with_reducible refine Loc.push ?_ _ _ | with_reducible refine Loc.set ?_ _ _ (by first | omega | (simp only [push_n, set_n]; omega)) | with_reducible refine And.intro (by omega) ?_)
      exact ⟨_, by omega, k + 1, rfl, by omega, by omega, by simpa using ha⟩
    | false =>
      rw [he] at ha
      repeat' (first | simp (maxSteps := 1000000) (disch := omega) only [rb0, rb1, rb2, rb3, rb4, rb5, Od.ev, Ao.dst, Nat.reduceEqDiff, ↓reduceIte, reduceIte, reduceCtorEq, Nat.reduceAdd, Nat.reduceLeDiff, Nat.reduceSub, Int.reduceToNat, byt, Nat.reduceBEq, h0, h3, hw] | with_reducible refine lw_of (fun _ => ?_) | with_reducible exact True.intro | with_reducible refine fin_same ?_ | with_reducible refine fin_loc ?_ ?_ ?_ | with_reducible exact Loc.refl _ | with_reducible refine Loc.push ?_ _ _ | with_reducible refine Loc.set ?_ _ _ (by first | omega | (simp only [push_n, set_n]; omega)) | with_reducible refine And.intro (by omega) ?_)
      rw [ha]; rfl
  · repeat' (first | simp (maxSteps := 1000000) (disch := omega) only [rb0, rb1, rb2, rb3, rb4, rb5, Od.ev, Ao.dst, Nat.reduceEqDiff, ↓reduceIte, reduceIte, reduceCtorEq, Nat.reduceAdd, Nat.reduceLeDiff, Nat.reduceSub, Int.reduceToNat, byt, Nat.reduceBEq, h0, h3] | with_reducible refine lw_of (fun _ => ?_) | with_reducible exact True.intro | with_reducible refine fin_same ?_ | with_reducible refine fin_loc ?_ ?_ ?_ | with_reducible exact Loc.refl _ | with_reducible refine Loc.push ?_ _ _ | with_reducible refine Loc.set ?_ _ _ (by first | omega | (simp only [push_n, set_n]; omega)) | with_reducible refine And.intro (by omega) ?_)
    rw [ha, List.drop_eq_nil_of_le (by omega)]; rfl
end Gx

/- Part K9. -/
/- The reference's parts. -/
set_option linter.unusedSimpArgs false
set_option linter.unusedVariables false
namespace Gx
open Go Go.Proofs Go.RowKit
variable {G : Nat → Option Obj}
def tailE (l : List Row) (k : Nat) : List (Nat × List Row) := if k ≤ l.length then eachN (l.length - k + 1) k (l.drop k) else []
theorem tailE_step (l : List Row) (k m : Nat) (hk : k ≤ l.length) (hm : mk1 (l.drop k) = m) : tailE l k = (if k > 0 || ((l.drop k).take m).any (fun r => !r.empty) then [(k, (l.drop k).take m)] else []) ++ tailE l (k + m + 1) := by
  have hdl : (l.drop k).length = l.length - k := by simp
  have hmk := mk1_le (l.drop k)
  unfold tailE
  rw [if_pos hk]
  have h1 : eachN (l.length - k + 1) k (l.drop k) = (if k > 0 || ((l.drop k).take m).any (fun r => !r.empty) then [(k, (l.drop k).take m)] else []) ++ (if m < (l.drop k).length then eachN (l.length - k) (k + m + 1) ((l.drop k).drop (m + 1)) else []) := by rw [← hm]; rfl
  rw [h1]
  congr 1
  by_cases hml : m < (l.drop k).length
  · rw [if_pos hml, if_pos (by omega), List.drop_drop]
    rw [eachN_more (l.length - k) _ _ (by simp; omega)]
    have e : k + (m + 1) = k + m + 1 := by omega
    rw [e]
    congr 1
    simp
  · rw [if_neg hml, if_neg (by omega)]
theorem tailE_0 (l : List Row) : tailE l 0 = eachL l := by simp [tailE, eachL]
theorem mk1_at (l : List Row) (k m : Nat) (h0 : ∀ j x, k ≤ j → j < k + m → l[j]? = some x → isMark x = false) (h1 : k + m ≤ l.length) (h2 : k + m = l.length ∨ ∃ x, l[k + m]? = some x ∧ isMark x = true) : mk1 (l.drop k) = m := by
  unfold mk1
  rcases h2 with h2 | ⟨x, hx, hp⟩
  · have : (l.drop k).findIdx? isMark = none := by
      rw [List.findIdx?_eq_none_iff]
      intro x hx
      obtain ⟨j, hj⟩ := List.mem_iff_getElem?.1 hx
      rw [List.getElem?_drop] at hj
      have := (List.getElem?_eq_some_iff.1 hj).1
      exact h0 (k + j) x (by omega) (by omega) hj
    rw [this]; simp; omega
  · have hl := (List.getElem?_eq_some_iff.1 hx).1
    have : (l.drop k).findIdx? isMark = some m := by
      rw [List.findIdx?_eq_some_iff_getElem]
      refine ⟨by simp; omega, ?_, fun j hj => ?_⟩
      · rw [List.getElem_drop]
        rw [(List.getElem?_eq_some_iff.1 hx).2]; exact hp
      · rw [List.getElem_drop]
        have := h0 (k + j) l[k + j] (by omega) (by omega) (List.getElem?_eq_getElem (by omega))
        simpa using this
    rw [this]; rfl
theorem k31 (σ : St) (l : List Row) (hs : l.length < 2 ^ 32 - 1) : ARet Tryz.prog G 31 [.sl false (rowsPv l)] σ (.sl false ((parts l).map partPv)) σ := by
  refine ret_of has31 (Nat.le_of_ble_eq_true rfl) ?_
  simp only [ir31]
  repeat' (first | simp (maxSteps := 1000000) (disch := omega) only [rb0, rb1, rb2, rb3, rb4, rb5, Od.ev, Ao.dst, Nat.reduceEqDiff, ↓reduceIte, reduceIte, reduceCtorEq, Nat.reduceAdd, Nat.reduceLeDiff, Nat.reduceSub, Int.reduceToNat, byt, Nat.reduceBEq] | with_reducible refine lw_of (fun _ => ?_) | with_reducible exact True.intro | with_reducible refine fin_same ?_ | with_reducible refine fin_loc ?_ ?_ ?_ | with_reducible exact Loc.refl _ | with_reducible refine Loc.push ?_ _ _ | with_reducible refine Loc.set ?_ _ _ (by first | omega | (simp only [push_n, set_n]; omega)) | with_reducible refine And.intro (by omega) ?_)
  refine loop_rule (fun n ρ σ' => σ' = σ ∧ ∃ (i f : Nat) (d : List (List Row)), n = l.length + 1 - i ∧ i ≤ l.length + 1 ∧ f ≤ i ∧ ρ 0 = .sl false (rowsPv l) ∧ ρ 3 = .sl true (d.map partPv) ∧ ρ 4 = .int .i64 f ∧ ρ 5 = .int .i64 i ∧ (∀ j x, f ≤ j → j < i → l[j]? = some x → isMark x = false) ∧ (i = l.length + 1 → f = l.length + 1) ∧ d ++ (tailE l f).map (·.2) = parts l) (fun n ρ σ' hI => ?_) (n := l.length + 1)
    ⟨rfl, 0, 0, [], rfl, by omega, by omega, by simp (maxSteps := 1000000) (disch := omega) only [rb0, rb1, rb2, rb3, rb4, rb5, Od.ev, Ao.dst, Nat.reduceEqDiff, ↓reduceIte, reduceIte, reduceCtorEq, Nat.reduceAdd, Nat.reduceLeDiff, Nat.reduceSub, Int.reduceToNat, byt, Nat.reduceBEq], by simp (maxSteps := 1000000) (disch := omega) only [rb0, rb1, rb2, rb3, rb4, rb5, Od.ev, Ao.dst, Nat.reduceEqDiff, ↓reduceIte, reduceIte, reduceCtorEq, Nat.reduceAdd, Nat.reduceLeDiff, Nat.reduceSub, Int.reduceToNat, byt, Nat.reduceBEq], by simp (maxSteps := 1000000) (disch := omega) only [rb0, rb1, rb2, rb3, rb4, rb5, Od.ev, Ao.dst, Nat.reduceEqDiff, ↓reduceIte, reduceIte, reduceCtorEq, Nat.reduceAdd, Nat.reduceLeDiff, Nat.reduceSub, Int.reduceToNat, byt, Nat.reduceBEq], by simp (maxSteps := 1000000) (disch := omega) only [rb0, rb1, rb2, rb3, rb4, rb5, Od.ev, Ao.dst, Nat.reduceEqDiff, ↓reduceIte, reduceIte, reduceCtorEq, Nat.reduceAdd, Nat.reduceLeDiff, Nat.reduceSub, Int.reduceToNat, byt, Nat.reduceBEq], fun j x a b => by omega, fun h => by omega, by simp [tailE_0, parts]⟩
  obtain ⟨rfl, i, f, d, rfl, hi, hf, h0, h3, h4, h5, hno, hend, hd⟩ := hI
  have hdl : d.length ≤ l.length + 1 := by
    have h1 := congrArg List.length hd
    have h2 := eachN_len (l.length + 1) 0 l
    simp only [List.length_append, List.length_map, parts, eachL] at h1
    omega
  have hw : IntKind.i64.wrap ((i : Int) + 1) = (i : Int) + 1 := wrap64 (by omega)
  repeat' (first | simp (maxSteps := 1000000) (disch := omega) only [rb0, rb1, rb2, rb3, rb4, rb5, Od.ev, Ao.dst, Nat.reduceEqDiff, ↓reduceIte, reduceIte, reduceCtorEq, Nat.reduceAdd, Nat.reduceLeDiff, Nat.reduceSub, Int.reduceToNat, byt, Nat.reduceBEq, h0, h5, rows_size] | with_reducible refine lw_of (fun _ => ?_) | with_reducible exact True.intro | with_reducible refine fin_same ?_ | with_reducible refine fin_loc ?_ ?_ ?_ | with_reducible exact Loc.refl _ | with_reducible refine Loc.push ?_ _ _ | with_reducible refine Loc.set ?_ _ _ (by first | omega | (simp only [push_n, set_n]; omega)) | with_reducible refine And.intro (by omega) ?_)
  refine bw_dec (fun h => ?_) (fun h => ?_)
  · have hil : i ≤ l.length := by omega
    -- the end of a document
    have fin : (i = l.length ∨ ∃ x, l[i]? = some x ∧ isMark x = true) → tailE l f = (if f > 0 || ((l.drop f).take (i - f)).any (fun r => !r.empty) then [(f, (l.drop f).take (i - f))] else []) ++ tailE l (i + 1) := by
      intro hx
      have := tailE_step l f (i - f) (by omega) (mk1_at l f (i - f) (fun j x a b c => hno j x a (by omega) c) (by omega) (by
        rcases hx with hx | ⟨x, h1, h2⟩
        · exact .inl (by omega)
        · exact .inr ⟨x, by rw [show f + (i - f) = i by omega]; exact h1, h2⟩))
      rw [show f + (i - f) + 1 = i + 1 by omega] at this
      exact this
    have hsl : (l.take i).drop f = (l.drop f).take (i - f) := List.drop_take ..
    have hpl := parts_ok d
    have hpo := eq_true hpl
    have nextA : ∀ (hx : i = l.length ∨ ∃ x, l[i]? = some x ∧ isMark x = true), (if f > 0 || ((l.drop f).take (i - f)).any (fun r => !r.empty) then [(f, (l.drop f).take (i - f))] else []) = [(f, (l.drop f).take (i - f))] → (d ++ [(l.drop f).take (i - f)]) ++ (tailE l (i + 1)).map (·.2) = parts l := by
      intro hx he
      rw [← hd, fin hx, he]; simp
    have nextB : ∀ (hx : i = l.length ∨ ∃ x, l[i]? = some x ∧ isMark x = true), (if f > 0 || ((l.drop f).take (i - f)).any (fun r => !r.empty) then [(f, (l.drop f).take (i - f))] else []) = [] → d ++ (tailE l (i + 1)).map (·.2) = parts l := by
      intro hx he
      rw [← hd, fin hx, he]; simp
    clear fin
    by_cases hlt : i < l.length
    · have hk : l[i]? = some l[i] := List.getElem?_eq_getElem hlt
      repeat' (first | simp (maxSteps := 1000000) (disch := omega) only [rb0, rb1, rb2, rb3, rb4, rb5, Od.ev, Ao.dst, Nat.reduceEqDiff, ↓reduceIte, reduceIte, reduceCtorEq, Nat.reduceAdd, Nat.reduceLeDiff, Nat.reduceSub, Int.reduceToNat, byt, Nat.reduceBEq, h0, h5, rows_at, hk, row_cells, hlt, rows_size] | with_reducible refine lw_of (fun _ => ?_) | with_reducible exact True.intro | with_reducible refine fin_same ?_ | with_reducible refine fin_loc ?_ ?_ ?_ | with_reducible exact Loc.refl _ | with_reducible refine Loc.push ?_ _ _ | with_reducible refine Loc.set ?_ _ _ (by first | omega | (simp only [push_n, set_n]; omega)) | with_reducible refine And.intro (by omega) ?_)
      have h58 := k58 (G := G) σ' l[i]
      simp only [Row.pv] at h58
      refine cw_of h58 ?_
      cases hm : isMark l[i] with
      | false =>
        repeat' (first | simp (maxSteps := 1000000) (disch := omega) only [rb0, rb1, rb2, rb3, rb4, rb5, Od.ev, Ao.dst, Nat.reduceEqDiff, ↓reduceIte, reduceIte, reduceCtorEq, Nat.reduceAdd, Nat.reduceLeDiff, Nat.reduceSub, Int.reduceToNat, byt, Nat.reduceBEq, h0, h5, hw] | with_reducible refine lw_of (fun _ => ?_) | with_reducible exact True.intro | with_reducible refine fin_same ?_ | with_reducible refine fin_loc ?_ ?_ ?_ | with_reducible exact Loc.refl _ | with_reducible refine Loc.push ?_ _ _ | with_reducible refine Loc.set ?_ _ _ (by first | omega | (simp only [push_n, set_n]; omega)) | with_reducible refine And.intro (by omega) ?_)
        exact ⟨_, by omega, i + 1, f, d, rfl, by omega, by omega, h3, h4, by omega, (fun j x a b c => by
          by_cases hji : j = i
          · subst hji; rw [hk] at c; cases c; exact hm
          · exact hno j x a (by omega) c), (fun e => by omega), hd⟩
      | true =>
        have hx : i = l.length ∨ ∃ x, l[i]? = some x ∧ isMark x = true := .inr ⟨_, hk, hm⟩
        by_cases hf0 : 0 < f
        · repeat' (first | simp (maxSteps := 1000000) (disch := omega) only [rb0, rb1, rb2, rb3, rb4, rb5, Od.ev, Ao.dst, Nat.reduceEqDiff, ↓reduceIte, reduceIte, reduceCtorEq, Nat.reduceAdd, Nat.reduceLeDiff, Nat.reduceSub, Int.reduceToNat, byt, Nat.reduceBEq, h0, h3, h4, h5, hw, hf0, rows_size, rows_len, rows_take, rows_drop, hsl, byt33, hpo, List.mem_singleton, forall_eq, List.length_map] | with_reducible refine lw_of (fun _ => ?_) | with_reducible exact True.intro | with_reducible refine fin_same ?_ | with_reducible refine fin_loc ?_ ?_ ?_ | with_reducible exact Loc.refl _ | with_reducible refine Loc.push ?_ _ _ | with_reducible refine Loc.set ?_ _ _ (by first | omega | (simp only [push_n, set_n]; omega)) | with_reducible refine And.intro (by omega) ?_)
          exact ⟨_, by omega, i + 1, i + 1, d ++ [(l.drop f).take (i - f)], rfl, by omega, by omega, by simp [partPv], by omega, by omega, (fun j x a b => by omega), (fun e => by omega), nextA hx (by simp [hf0])⟩
        · obtain rfl : f = 0 := by omega
          repeat' (first | simp (maxSteps := 1000000) (disch := omega) only [rb0, rb1, rb2, rb3, rb4, rb5, Od.ev, Ao.dst, Nat.reduceEqDiff, ↓reduceIte, reduceIte, reduceCtorEq, Nat.reduceAdd, Nat.reduceLeDiff, Nat.reduceSub, Int.reduceToNat, byt, Nat.reduceBEq, h0, h3, h4, h5, hw, hf0, rows_size, rows_len, rows_take, rows_drop, hsl, byt33, hpo, List.mem_singleton, forall_eq, List.length_map] | with_reducible refine lw_of (fun _ => ?_) | with_reducible exact True.intro | with_reducible refine fin_same ?_ | with_reducible refine fin_loc ?_ ?_ ?_ | with_reducible exact Loc.refl _ | with_reducible refine Loc.push ?_ _ _ | with_reducible refine Loc.set ?_ _ _ (by first | omega | (simp only [push_n, set_n]; omega)) | with_reducible refine And.intro (by omega) ?_)
          refine cw_of (k59 _ (l.take i)) ?_
          have e0 : (l.drop 0).take (i - 0) = l.take i := by simp
          cases hany : (l.take i).any fun r => !r.empty with
          | true =>
            repeat' (first | simp (maxSteps := 1000000) (disch := omega) only [rb0, rb1, rb2, rb3, rb4, rb5, Od.ev, Ao.dst, Nat.reduceEqDiff, ↓reduceIte, reduceIte, reduceCtorEq, Nat.reduceAdd, Nat.reduceLeDiff, Nat.reduceSub, Int.reduceToNat, byt, Nat.reduceBEq, h0, h3, h4, h5, hw, hf0, rows_size, rows_len, rows_take, rows_drop, hsl, byt33, hpo, List.mem_singleton, forall_eq, List.length_map] | with_reducible refine lw_of (fun _ => ?_) | with_reducible exact True.intro | with_reducible refine fin_same ?_ | with_reducible refine fin_loc ?_ ?_ ?_ | with_reducible exact Loc.refl _ | with_reducible refine Loc.push ?_ _ _ | with_reducible refine Loc.set ?_ _ _ (by first | omega | (simp only [push_n, set_n]; omega)) | with_reducible refine And.intro (by omega) ?_)
            exact ⟨_, by omega, i + 1, i + 1, d ++ [(l.drop 0).take (i - 0)], rfl, by omega, by omega, by simp [partPv], by omega, by omega, (fun j x a b => by omega), (fun e => by omega), nextA hx (by rw [e0, hany]; simp)⟩
          | false =>
            repeat' (first | simp (maxSteps := 1000000) (disch := omega) only [rb0, rb1, rb2, rb3, rb4, rb5, Od.ev, Ao.dst, Nat.reduceEqDiff, ↓reduceIte, reduceIte, reduceCtorEq, Nat.reduceAdd, Nat.reduceLeDiff, Nat.reduceSub, Int.reduceToNat, byt, Nat.reduceBEq, h0, h3, h4, h5, hw, hf0, rows_size, rows_len, rows_take, rows_drop, hsl, byt33, hpo, List.mem_singleton, forall_eq, List.length_map] | with_reducible refine lw_of (fun _ => ?_) | with_reducible exact True.intro | with_reducible refine fin_same ?_ | with_reducible refine fin_loc ?_ ?_ ?_ | with_reducible exact Loc.refl _ | with_reducible refine Loc.push ?_ _ _ | with_reducible refine Loc.set ?_ _ _ (by first | omega | (simp only [push_n, set_n]; omega)) | with_reducible refine And.intro (by omega) ?_)
            exact ⟨_, by omega, i + 1, i + 1, d, rfl, by omega, by omega, rfl, by omega, by omega, (fun j x a b => by omega), (fun e => by omega), nextB hx (by rw [e0, hany]; simp)⟩
    · have hx : i = l.length ∨ ∃ x, l[i]? = some x ∧ isMark x = true := .inl (by omega)
      have hlt' : ¬ ((i : Int) < (l.length : Int)) := by omega
      repeat' (first | simp (maxSteps := 1000000) (disch := omega) only [rb0, rb1, rb2, rb3, rb4, rb5, Od.ev, Ao.dst, Nat.reduceEqDiff, ↓reduceIte, reduceIte, reduceCtorEq, Nat.reduceAdd, Nat.reduceLeDiff, Nat.reduceSub, Int.reduceToNat, byt, Nat.reduceBEq, h0, h5, hlt, hlt', rows_size] | with_reducible refine lw_of (fun _ => ?_) | with_reducible exact True.intro | with_reducible refine fin_same ?_ | with_reducible refine fin_loc ?_ ?_ ?_ | with_reducible exact Loc.refl _ | with_reducible refine Loc.push ?_ _ _ | with_reducible refine Loc.set ?_ _ _ (by first | omega | (simp only [push_n, set_n]; omega)) | with_reducible refine And.intro (by omega) ?_)
      by_cases hf0 : 0 < f
      · repeat' (first | simp (maxSteps := 1000000) (disch := omega) only [rb0, rb1, rb2, rb3, rb4, rb5, Od.ev, Ao.dst, Nat.reduceEqDiff, ↓reduceIte, reduceIte, reduceCtorEq, Nat.reduceAdd, Nat.reduceLeDiff, Nat.reduceSub, Int.reduceToNat, byt, Nat.reduceBEq, h0, h3, h4, h5, hw, hf0, rows_size, rows_len, rows_take, rows_drop, hsl, byt33, hpo, List.mem_singleton, forall_eq, List.length_map] | with_reducible refine lw_of (fun _ => ?_) | with_reducible exact True.intro | with_reducible refine fin_same ?_ | with_reducible refine fin_loc ?_ ?_ ?_ | with_reducible exact Loc.refl _ | with_reducible refine Loc.push ?_ _ _ | with_reducible refine Loc.set ?_ _ _ (by first | omega | (simp only [push_n, set_n]; omega)) | with_reducible refine And.intro (by omega) ?_)
        exact ⟨_, by omega, i + 1, i + 1, d ++ [(l.drop f).take (i - f)], rfl, by omega, by omega, by simp [partPv], by omega, by omega, (fun j x a b => by omega), (fun e => by omega), nextA hx (by simp [hf0])⟩
      · obtain rfl : f = 0 := by omega
        repeat' (first | simp (maxSteps := 1000000) (disch := omega) only [rb0, rb1, rb2, rb3, rb4, rb5, Od.ev, Ao.dst, Nat.reduceEqDiff, ↓reduceIte, reduceIte, reduceCtorEq, Nat.reduceAdd, Nat.reduceLeDiff, Nat.reduceSub, Int.reduceToNat, byt, Nat.reduceBEq, h0, h3, h4, h5, hw, hf0, rows_size, rows_len, rows_take, rows_drop, hsl, byt33, hpo, List.mem_singleton, forall_eq, List.length_map] | with_reducible refine lw_of (fun _ => ?_) | with_reducible exact True.intro | with_reducible refine fin_same ?_ | with_reducible refine fin_loc ?_ ?_ ?_ | with_reducible exact Loc.refl _ | with_reducible refine Loc.push ?_ _ _ | with_reducible refine Loc.set ?_ _ _ (by first | omega | (simp only [push_n, set_n]; omega)) | with_reducible refine And.intro (by omega) ?_)
        refine cw_of (k59 _ (l.take i)) ?_
        have e0 : (l.drop 0).take (i - 0) = l.take i := by simp
        cases hany : (l.take i).any fun r => !r.empty with
        | true =>
          repeat' (first | simp (maxSteps := 1000000) (disch := omega) only [rb0, rb1, rb2, rb3, rb4, rb5, Od.ev, Ao.dst, Nat.reduceEqDiff, ↓reduceIte, reduceIte, reduceCtorEq, Nat.reduceAdd, Nat.reduceLeDiff, Nat.reduceSub, Int.reduceToNat, byt, Nat.reduceBEq, h0, h3, h4, h5, hw, hf0, rows_size, rows_len, rows_take, rows_drop, hsl, byt33, hpo, List.mem_singleton, forall_eq, List.length_map] | with_reducible refine lw_of (fun _ => ?_) | with_reducible exact True.intro | with_reducible refine fin_same ?_ | with_reducible refine fin_loc ?_ ?_ ?_ | with_reducible exact Loc.refl _ | with_reducible refine Loc.push ?_ _ _ | with_reducible refine Loc.set ?_ _ _ (by first | omega | (simp only [push_n, set_n]; omega)) | with_reducible refine And.intro (by omega) ?_)
          exact ⟨_, by omega, i + 1, i + 1, d ++ [(l.drop 0).take (i - 0)], rfl, by omega, by omega, by simp [partPv], by omega, by omega, (fun j x a b => by omega), (fun e => by omega), nextA hx (by rw [e0, hany]; simp)⟩
        | false =>
          repeat' (first | simp (maxSteps := 1000000) (disch := omega) only [rb0, rb1, rb2, rb3, rb4, rb5, Od.ev, Ao.dst, Nat.reduceEqDiff, ↓reduceIte, reduceIte, reduceCtorEq, Nat.reduceAdd, Nat.reduceLeDiff, Nat.reduceSub, Int.reduceToNat, byt, Nat.reduceBEq, h0, h3, h4, h5, hw, hf0, rows_size, rows_len, rows_take, rows_drop, hsl, byt33, hpo, List.mem_singleton, forall_eq, List.length_map] | with_reducible refine lw_of (fun _ => ?_) | with_reducible exact True.intro | with_reducible refine fin_same ?_ | with_reducible refine fin_loc ?_ ?_ ?_ | with_reducible exact Loc.refl _ | with_reducible refine Loc.push ?_ _ _ | with_reducible refine Loc.set ?_ _ _ (by first | omega | (simp only [push_n, set_n]; omega)) | with_reducible refine And.intro (by omega) ?_)
          exact ⟨_, by omega, i + 1, i + 1, d, rfl, by omega, by omega, rfl, by omega, by omega, (fun j x a b => by omega), (fun e => by omega), nextB hx (by rw [e0, hany]; simp)⟩
  · repeat' (first | simp (maxSteps := 1000000) (disch := omega) only [rb0, rb1, rb2, rb3, rb4, rb5, Od.ev, Ao.dst, Nat.reduceEqDiff, ↓reduceIte, reduceIte, reduceCtorEq, Nat.reduceAdd, Nat.reduceLeDiff, Nat.reduceSub, Int.reduceToNat, byt, Nat.reduceBEq, h0, h3, h4, h5] | with_reducible refine lw_of (fun _ => ?_) | with_reducible exact True.intro | with_reducible refine fin_same ?_ | with_reducible refine fin_loc ?_ ?_ ?_ | with_reducible exact Loc.refl _ | with_reducible refine Loc.push ?_ _ _ | with_reducible refine Loc.set ?_ _ _ (by first | omega | (simp only [push_n, set_n]; omega)) | with_reducible refine And.intro (by omega) ?_)
    have : f = l.length + 1 := hend (by omega)
    rw [this] at hd
    rw [← hd]
    simp only [tailE]
    rw [if_neg (by omega)]; simp
end Gx

/- Part K10. -/
/- grommetref02.Same of the same rows. -/
set_option linter.unusedSimpArgs false
set_option linter.unusedVariables false
namespace Gx
open Go Go.Proofs Go.RowKit
variable {G : Nat → Option Obj}
theorem k32 (σ : St) (l : List Row) : ARet Tryz.prog G 32 [.sl false (rowsPv l), .sl false (rowsPv l)] σ (.bool true) σ := by
  refine ret_of has32 (Nat.le_of_ble_eq_true rfl) ?_
  simp only [ir32]
  repeat' (first | simp (maxSteps := 1000000) (disch := omega) only [rb0, rb1, rb2, rb3, rb4, rb5, Od.ev, Ao.dst, Nat.reduceEqDiff, ↓reduceIte, reduceIte, reduceCtorEq, Nat.reduceAdd, Nat.reduceLeDiff, Nat.reduceSub, Int.reduceToNat, byt, Nat.reduceBEq] | with_reducible refine lw_of (fun _ => ?_) | with_reducible exact True.intro | with_reducible refine fin_same ?_ | with_reducible refine fin_loc ?_ ?_ ?_ | with_reducible exact Loc.refl _ | with_reducible refine Loc.push ?_ _ _ | with_reducible refine Loc.set ?_ _ _ (by first | omega | (simp only [push_n, set_n]; omega)) | with_reducible refine And.intro (by omega) ?_)
  refine loop_rule (fun n ρ σ' => σ' = σ ∧ ∃ k : Nat, n = l.length - k ∧ k ≤ l.length ∧ ρ 0 = .sl false (rowsPv l) ∧ ρ 1 = .sl false (rowsPv l) ∧ ρ 5 = .int .i64 k) (fun n ρ σ' hI => ?_) ⟨rfl, 0, rfl, by omega, rfl, rfl, rfl⟩
  obtain ⟨rfl, k, rfl, hle, h0, h1, h5⟩ := hI
  repeat' (first | simp (maxSteps := 1000000) (disch := omega) only [rb0, rb1, rb2, rb3, rb4, rb5, Od.ev, Ao.dst, Nat.reduceEqDiff, ↓reduceIte, reduceIte, reduceCtorEq, Nat.reduceAdd, Nat.reduceLeDiff, Nat.reduceSub, Int.reduceToNat, byt, Nat.reduceBEq, h0, h5, rows_size] | with_reducible refine lw_of (fun _ => ?_) | with_reducible exact True.intro | with_reducible refine fin_same ?_ | with_reducible refine fin_loc ?_ ?_ ?_ | with_reducible exact Loc.refl _ | with_reducible refine Loc.push ?_ _ _ | with_reducible refine Loc.set ?_ _ _ (by first | omega | (simp only [push_n, set_n]; omega)) | with_reducible refine And.intro (by omega) ?_)
  refine bw_dec (fun h => ?_) (fun h => ?_)
  · have hlt : k < l.length := by omega
    have hk : l[k]? = some l[k] := List.getElem?_eq_getElem hlt
    have hw : IntKind.i64.wrap ((k : Int) + 1) = (k : Int) + 1 := wrap64 (by omega)
    repeat' (first | simp (maxSteps := 1000000) (disch := omega) only [rb0, rb1, rb2, rb3, rb4, rb5, Od.ev, Ao.dst, Nat.reduceEqDiff, ↓reduceIte, reduceIte, reduceCtorEq, Nat.reduceAdd, Nat.reduceLeDiff, Nat.reduceSub, Int.reduceToNat, byt, Nat.reduceBEq, h0, h1, h5, rows_at, hk, row_cells, hw, Bool.and_self, bne_self_eq_false] | with_reducible refine lw_of (fun _ => ?_) | with_reducible exact True.intro | with_reducible refine fin_same ?_ | with_reducible refine fin_loc ?_ ?_ ?_ | with_reducible exact Loc.refl _ | with_reducible refine Loc.push ?_ _ _ | with_reducible refine Loc.set ?_ _ _ (by first | omega | (simp only [push_n, set_n]; omega)) | with_reducible refine And.intro (by omega) ?_)
    exact ⟨_, by omega, k + 1, rfl, by omega, by omega⟩
  · repeat' (first | simp (maxSteps := 1000000) (disch := omega) only [rb0, rb1, rb2, rb3, rb4, rb5, Od.ev, Ao.dst, Nat.reduceEqDiff, ↓reduceIte, reduceIte, reduceCtorEq, Nat.reduceAdd, Nat.reduceLeDiff, Nat.reduceSub, Int.reduceToNat, byt, Nat.reduceBEq, h0, h1, h5] | with_reducible refine lw_of (fun _ => ?_) | with_reducible exact True.intro | with_reducible refine fin_same ?_ | with_reducible refine fin_loc ?_ ?_ ?_ | with_reducible exact Loc.refl _ | with_reducible refine Loc.push ?_ _ _ | with_reducible refine Loc.set ?_ _ _ (by first | omega | (simp only [push_n, set_n]; omega)) | with_reducible refine And.intro (by omega) ?_)
end Gx

/- Part M10. -/
/- The law LoadParts. -/
set_option linter.unusedSimpArgs false
set_option linter.unusedVariables false
namespace Gx
open Go Go.Proofs Go.RowKit
variable {G : Nat → Option Obj}
theorem m10 (hal : ∀ σ, ARet Tryz.prog G 16 [] σ (.bool true) σ) (σ : St) (l : List Row) : ARet Tryz.prog G 10 [.sl false (rowsPv l)] σ (.bool true) σ := by
  refine ret_of has10 (Nat.le_of_ble_eq_true rfl) ?_
  simp only [ir10]
  repeat' (first | simp (maxSteps := 1000000) (disch := omega) only [rb0, rb1, rb2, rb3, rb4, rb5, Od.ev, Ao.dst, Nat.reduceEqDiff, ↓reduceIte, reduceIte, reduceCtorEq, Nat.reduceAdd, Nat.reduceLeDiff, Nat.reduceSub, Int.reduceToNat, byt, Nat.reduceBEq, rows_size] | with_reducible refine lw_of (fun _ => ?_) | with_reducible exact True.intro | with_reducible refine fin_same ?_ | with_reducible refine fin_loc ?_ ?_ ?_ | with_reducible exact Loc.refl _ | with_reducible refine Loc.push ?_ _ _ | with_reducible refine Loc.set ?_ _ _ (by first | omega | (simp only [push_n, set_n]; omega)) | with_reducible refine And.intro (by omega) ?_)
  refine bw_dec (fun h => ?_) (fun h => ?_)
  · repeat' (first | simp (maxSteps := 1000000) (disch := omega) only [rb0, rb1, rb2, rb3, rb4, rb5, Od.ev, Ao.dst, Nat.reduceEqDiff, ↓reduceIte, reduceIte, reduceCtorEq, Nat.reduceAdd, Nat.reduceLeDiff, Nat.reduceSub, Int.reduceToNat, byt, Nat.reduceBEq] | with_reducible refine lw_of (fun _ => ?_) | with_reducible exact True.intro | with_reducible refine fin_same ?_ | with_reducible refine fin_loc ?_ ?_ ?_ | with_reducible exact Loc.refl _ | with_reducible refine Loc.push ?_ _ _ | with_reducible refine Loc.set ?_ _ _ (by first | omega | (simp only [push_n, set_n]; omega)) | with_reducible refine And.intro (by omega) ?_ | with_reducible refine cw_of (hal _) ?_)
  · repeat' (first | simp (maxSteps := 1000000) (disch := omega) only [rb0, rb1, rb2, rb3, rb4, rb5, Od.ev, Ao.dst, Nat.reduceEqDiff, ↓reduceIte, reduceIte, reduceCtorEq, Nat.reduceAdd, Nat.reduceLeDiff, Nat.reduceSub, Int.reduceToNat, byt, Nat.reduceBEq, rows_size] | with_reducible refine lw_of (fun _ => ?_) | with_reducible exact True.intro | with_reducible refine fin_same ?_ | with_reducible refine fin_loc ?_ ?_ ?_ | with_reducible exact Loc.refl _ | with_reducible refine Loc.push ?_ _ _ | with_reducible refine Loc.set ?_ _ _ (by first | omega | (simp only [push_n, set_n]; omega)) | with_reducible refine And.intro (by omega) ?_ | with_reducible refine cw_of (k30 _ _ (by omega)) ?_ | with_reducible refine cw_of (k31 _ _ (by omega)) ?_)
    refine loop_rule (fun n ρ σ' => σ' = σ ∧ ∃ k : Nat, n = (parts l).length - k ∧ k ≤ (parts l).length ∧ ρ 3 = .sl false ((parts l).map partPv) ∧ ρ 4 = .sl false ((parts l).map partPv) ∧ ρ 20 = .int .i64 (parts l).length ∧ ρ 21 = .int .i64 k) (fun n ρ σ' hI => ?_) ⟨rfl, 0, rfl, by omega, by simp (maxSteps := 1000000) (disch := omega) only [rb0, rb1, rb2, rb3, rb4, rb5, Od.ev, Ao.dst, Nat.reduceEqDiff, ↓reduceIte, reduceIte, reduceCtorEq, Nat.reduceAdd, Nat.reduceLeDiff, Nat.reduceSub, Int.reduceToNat, byt, Nat.reduceBEq], by simp (maxSteps := 1000000) (disch := omega) only [rb0, rb1, rb2, rb3, rb4, rb5, Od.ev, Ao.dst, Nat.reduceEqDiff, ↓reduceIte, reduceIte, reduceCtorEq, Nat.reduceAdd, Nat.reduceLeDiff, Nat.reduceSub, Int.reduceToNat, byt, Nat.reduceBEq], by simp (maxSteps := 1000000) (disch := omega) only [rb0, rb1, rb2, rb3, rb4, rb5, Od.ev, Ao.dst, Nat.reduceEqDiff, ↓reduceIte, reduceIte, reduceCtorEq, Nat.reduceAdd, Nat.reduceLeDiff, Nat.reduceSub, Int.reduceToNat, byt, Nat.reduceBEq, List.length_map], by simp (maxSteps := 1000000) (disch := omega) only [rb0, rb1, rb2, rb3, rb4, rb5, Od.ev, Ao.dst, Nat.reduceEqDiff, ↓reduceIte, reduceIte, reduceCtorEq, Nat.reduceAdd, Nat.reduceLeDiff, Nat.reduceSub, Int.reduceToNat, byt, Nat.reduceBEq]⟩
    obtain ⟨rfl, k, rfl, hle, h3, h4, h20, h21⟩ := hI
    repeat' (first | simp (maxSteps := 1000000) (disch := omega) only [rb0, rb1, rb2, rb3, rb4, rb5, Od.ev, Ao.dst, Nat.reduceEqDiff, ↓reduceIte, reduceIte, reduceCtorEq, Nat.reduceAdd, Nat.reduceLeDiff, Nat.reduceSub, Int.reduceToNat, byt, Nat.reduceBEq, h20, h21] | with_reducible refine lw_of (fun _ => ?_) | with_reducible exact True.intro | with_reducible refine fin_same ?_ | with_reducible refine fin_loc ?_ ?_ ?_ | with_reducible exact Loc.refl _ | with_reducible refine Loc.push ?_ _ _ | with_reducible refine Loc.set ?_ _ _ (by first | omega | (simp only [push_n, set_n]; omega)) | with_reducible refine And.intro (by omega) ?_)
    refine bw_dec (fun h => ?_) (fun h => ?_)
    · have hlt : k < (parts l).length := by omega
      have hk : ((parts l).map partPv)[k]? = some (partPv (parts l)[k]) := by simp [hlt]
      have hw : IntKind.i64.wrap ((k : Int) + 1) = (k : Int) + 1 := wrap64 (by have := eachN_len (l.length + 1) 0 l; simp only [parts, eachL, List.length_map] at hlt ⊢; omega)
      simp (maxSteps := 1000000) (disch := omega) only [rb0, rb1, rb2, rb3, rb4, rb5, Od.ev, Ao.dst, Nat.reduceEqDiff, ↓reduceIte, reduceIte, reduceCtorEq, Nat.reduceAdd, Nat.reduceLeDiff, Nat.reduceSub, Int.reduceToNat, byt, Nat.reduceBEq, h3, h4, h20, h21, hk, partPv, hw]
      repeat' (with_reducible refine And.intro ?_ ?_)
      all_goals try omega
      all_goals
        refine cw_of (k32 _ _) ?_
        repeat' (first | simp (maxSteps := 1000000) (disch := omega) only [rb0, rb1, rb2, rb3, rb4, rb5, Od.ev, Ao.dst, Nat.reduceEqDiff, ↓reduceIte, reduceIte, reduceCtorEq, Nat.reduceAdd, Nat.reduceLeDiff, Nat.reduceSub, Int.reduceToNat, byt, Nat.reduceBEq, h3, h4, h20, h21, hw] | with_reducible refine lw_of (fun _ => ?_) | with_reducible exact True.intro | with_reducible refine fin_same ?_ | with_reducible refine fin_loc ?_ ?_ ?_ | with_reducible exact Loc.refl _ | with_reducible refine Loc.push ?_ _ _ | with_reducible refine Loc.set ?_ _ _ (by first | omega | (simp only [push_n, set_n]; omega)) | with_reducible refine And.intro (by omega) ?_)
        exact ⟨_, by omega, k + 1, rfl, by omega, by omega⟩
    · repeat' (first | simp (maxSteps := 1000000) (disch := omega) only [rb0, rb1, rb2, rb3, rb4, rb5, Od.ev, Ao.dst, Nat.reduceEqDiff, ↓reduceIte, reduceIte, reduceCtorEq, Nat.reduceAdd, Nat.reduceLeDiff, Nat.reduceSub, Int.reduceToNat, byt, Nat.reduceBEq, h20, h21] | with_reducible refine lw_of (fun _ => ?_) | with_reducible exact True.intro | with_reducible refine fin_same ?_ | with_reducible refine fin_loc ?_ ?_ ?_ | with_reducible exact Loc.refl _ | with_reducible refine Loc.push ?_ _ _ | with_reducible refine Loc.set ?_ _ _ (by first | omega | (simp only [push_n, set_n]; omega)) | with_reducible refine And.intro (by omega) ?_ | with_reducible refine cw_of (hal _) ?_)
end Gx
