import Derived.Test.YtgbkgdhnfjndgaaGreatDoorQ7
import Derived.Carry
import Derived.ChangeSame
import Derived.Deep.DeepHandedRow
import Derived.Deep.Slices
import Derived.Deep.Strs
import Derived.KernelRfl
import Derived.Lib.ItoaLen
import Derived.Lib.LaidU8T
import Derived.Lib.QuoteLoop
import Derived.Lib.TrimU
import Derived.MakeChecks
import Derived.OpenShut
import Derived.SizedLaws
import Derived.Test.YtgbkgdhnfjndgaaGreatDoorProg
import Derived.Test.YtgbkgdhnfjndgaaGreatDoorSh
import Derived.Test.YtgbkgdhnfjndgaaGreatDoorTie
import Derived.WalkKit
import Derived.WideKeyArgs
/- A part of the proof: a calculus of values over the model, and the functions that the statement reaches, each once, in that calculus. -/
set_option linter.all false
set_option linter.unusedSimpArgs false
set_option linter.unusedVariables false

/- Part K1. -/
/- Go's strings: what each small function gives. -/
set_option linter.unusedSimpArgs false
set_option linter.unusedVariables false
namespace Gx
open Go Go.Proofs
variable {G : Nat → Option Obj}

theorem isPrefixOf_take (p s : List UInt8) : p.isPrefixOf s = decide (p.length ≤ s.length ∧ s.take p.length = p) := by
  rw [Bool.eq_iff_iff]
  simp only [List.isPrefixOf_iff_prefix, decide_eq_true_eq, List.prefix_iff_eq_take]
  constructor
  · intro h
    have := congrArg List.length h
    simp only [List.length_take] at this
    exact ⟨by omega, h.symm⟩
  · exact fun h => h.2.symm
theorem isSuffixOf_drop (p s : List UInt8) : p.isSuffixOf s = decide (p.length ≤ s.length ∧ s.drop (s.length - p.length) = p) := by
  rw [Bool.eq_iff_iff]
  simp only [List.isSuffixOf_iff_suffix, decide_eq_true_eq, List.suffix_iff_eq_drop]
  constructor
  · intro h
    have := congrArg List.length h
    simp only [List.length_drop] at this
    by_cases hl : p.length ≤ s.length
    · exact ⟨hl, h.symm⟩
    · have h0 : s.length - p.length = 0 := by omega
      rw [h0] at h; simp at h; subst h; simp at hl
  · exact fun h => h.2.symm

theorem k118 (σ : St) (s p : List UInt8) : ARet Tryz.prog G 118 [.str s, .str p] σ (.bool (p.isPrefixOf s)) σ := by
  refine ret_of has118 (Nat.le_of_ble_eq_true rfl) ?_
  simp only [ir118]
  rw [isPrefixOf_take]
  repeat' (first | simp (maxSteps := 1000000) (disch := omega) only [rb0, rb1, rb2, rb3, rb4, rb5, Od.ev, Ao.dst, Nat.reduceEqDiff, ↓reduceIte, reduceIte, reduceCtorEq, Nat.reduceAdd, Nat.reduceLeDiff, Nat.reduceSub, Int.reduceToNat, byt, Nat.reduceBEq] | with_reducible refine lw_of (fun _ => ?_) | with_reducible exact True.intro | with_reducible refine fin_same ?_ | with_reducible refine fin_loc ?_ ?_ ?_ | with_reducible exact Loc.refl _ | with_reducible refine Loc.push ?_ _ _ | with_reducible refine Loc.set ?_ _ _ (by first | omega | (simp only [push_n, set_n]; omega)) | with_reducible refine And.intro (by omega) ?_)
  by_cases h : p.length ≤ s.length <;> repeat' (first | simp (maxSteps := 1000000) (disch := omega) only [rb0, rb1, rb2, rb3, rb4, rb5, Od.ev, Ao.dst, Nat.reduceEqDiff, ↓reduceIte, reduceIte, reduceCtorEq, Nat.reduceAdd, Nat.reduceLeDiff, Nat.reduceSub, Int.reduceToNat, byt, Nat.reduceBEq, h] | with_reducible refine lw_of (fun _ => ?_) | with_reducible exact True.intro | with_reducible refine fin_same ?_ | with_reducible refine fin_loc ?_ ?_ ?_ | with_reducible exact Loc.refl _ | with_reducible refine Loc.push ?_ _ _ | with_reducible refine Loc.set ?_ _ _ (by first | omega | (simp only [push_n, set_n]; omega)) | with_reducible refine And.intro (by omega) ?_)
theorem k66 (σ : St) (s p : List UInt8) : ARet Tryz.prog G 66 [.str s, .str p] σ (.bool (p.isPrefixOf s)) σ := by
  refine ret_of has66 (Nat.le_of_ble_eq_true rfl) ?_
  simp only [ir66]
  repeat' (first | simp (maxSteps := 1000000) (disch := omega) only [rb0, rb1, rb2, rb3, rb4, rb5, Od.ev, Ao.dst, Nat.reduceEqDiff, ↓reduceIte, reduceIte, reduceCtorEq, Nat.reduceAdd, Nat.reduceLeDiff, Nat.reduceSub, Int.reduceToNat, byt, Nat.reduceBEq] | with_reducible refine lw_of (fun _ => ?_) | with_reducible exact True.intro | with_reducible refine fin_same ?_ | with_reducible refine fin_loc ?_ ?_ ?_ | with_reducible exact Loc.refl _ | with_reducible refine Loc.push ?_ _ _ | with_reducible refine Loc.set ?_ _ _ (by first | omega | (simp only [push_n, set_n]; omega)) | with_reducible refine And.intro (by omega) ?_ | with_reducible refine cw_of (k118 _ _ _) ?_)
theorem k86 (σ : St) (s p : List UInt8) : ARet Tryz.prog G 86 [.str s, .str p] σ (.tup [.str (if p.isPrefixOf s then s.drop p.length else s), .bool (p.isPrefixOf s)]) σ := by
  refine ret_of has86 (Nat.le_of_ble_eq_true rfl) ?_
  simp only [ir86]
  have hp := isPrefixOf_take p s
  repeat' (first | simp (maxSteps := 1000000) (disch := omega) only [rb0, rb1, rb2, rb3, rb4, rb5, Od.ev, Ao.dst, Nat.reduceEqDiff, ↓reduceIte, reduceIte, reduceCtorEq, Nat.reduceAdd, Nat.reduceLeDiff, Nat.reduceSub, Int.reduceToNat, byt, Nat.reduceBEq] | with_reducible refine lw_of (fun _ => ?_) | with_reducible exact True.intro | with_reducible refine fin_same ?_ | with_reducible refine fin_loc ?_ ?_ ?_ | with_reducible exact Loc.refl _ | with_reducible refine Loc.push ?_ _ _ | with_reducible refine Loc.set ?_ _ _ (by first | omega | (simp only [push_n, set_n]; omega)) | with_reducible refine And.intro (by omega) ?_ | with_reducible refine cw_of (k118 _ _ _) ?_)
  refine bw_split (fun h => ?_) (fun h => ?_)
  · have h' : p.isPrefixOf s = false := by simpa using h
    repeat' (first | simp (maxSteps := 1000000) (disch := omega) only [rb0, rb1, rb2, rb3, rb4, rb5, Od.ev, Ao.dst, Nat.reduceEqDiff, ↓reduceIte, reduceIte, reduceCtorEq, Nat.reduceAdd, Nat.reduceLeDiff, Nat.reduceSub, Int.reduceToNat, byt, Nat.reduceBEq, h', Bool.false_eq_true] | with_reducible refine lw_of (fun _ => ?_) | with_reducible exact True.intro | with_reducible refine fin_same ?_ | with_reducible refine fin_loc ?_ ?_ ?_ | with_reducible exact Loc.refl _ | with_reducible refine Loc.push ?_ _ _ | with_reducible refine Loc.set ?_ _ _ (by first | omega | (simp only [push_n, set_n]; omega)) | with_reducible refine And.intro (by omega) ?_)
  · have h' : p.isPrefixOf s = true := by simpa using h
    rw [h', eq_comm, decide_eq_true_eq] at hp
    have := hp.1
    repeat' (first | simp (maxSteps := 1000000) (disch := omega) only [rb0, rb1, rb2, rb3, rb4, rb5, Od.ev, Ao.dst, Nat.reduceEqDiff, ↓reduceIte, reduceIte, reduceCtorEq, Nat.reduceAdd, Nat.reduceLeDiff, Nat.reduceSub, Int.reduceToNat, byt, Nat.reduceBEq, h'] | with_reducible refine lw_of (fun _ => ?_) | with_reducible exact True.intro | with_reducible refine fin_same ?_ | with_reducible refine fin_loc ?_ ?_ ?_ | with_reducible exact Loc.refl _ | with_reducible refine Loc.push ?_ _ _ | with_reducible refine Loc.set ?_ _ _ (by first | omega | (simp only [push_n, set_n]; omega)) | with_reducible refine And.intro (by omega) ?_)
theorem k46 (σ : St) (s p : List UInt8) : ARet Tryz.prog G 46 [.str s, .str p] σ (.tup [.str (if p.isPrefixOf s then s.drop p.length else s), .bool (p.isPrefixOf s)]) σ := by
  refine ret_of has46 (Nat.le_of_ble_eq_true rfl) ?_
  simp only [ir46]
  repeat' (first | simp (maxSteps := 1000000) (disch := omega) only [rb0, rb1, rb2, rb3, rb4, rb5, Od.ev, Ao.dst, Nat.reduceEqDiff, ↓reduceIte, reduceIte, reduceCtorEq, Nat.reduceAdd, Nat.reduceLeDiff, Nat.reduceSub, Int.reduceToNat, byt, Nat.reduceBEq] | with_reducible refine lw_of (fun _ => ?_) | with_reducible exact True.intro | with_reducible refine fin_same ?_ | with_reducible refine fin_loc ?_ ?_ ?_ | with_reducible exact Loc.refl _ | with_reducible refine Loc.push ?_ _ _ | with_reducible refine Loc.set ?_ _ _ (by first | omega | (simp only [push_n, set_n]; omega)) | with_reducible refine And.intro (by omega) ?_ | with_reducible refine cw_of (k86 _ _ _) ?_)
theorem k205 (σ : St) (s p : List UInt8) : ARet Tryz.prog G 205 [.str s, .str p] σ (.bool (p.isSuffixOf s)) σ := by
  refine ret_of has205 (Nat.le_of_ble_eq_true rfl) ?_
  simp only [ir205]
  rw [isSuffixOf_drop]
  repeat' (first | simp (maxSteps := 1000000) (disch := omega) only [rb0, rb1, rb2, rb3, rb4, rb5, Od.ev, Ao.dst, Nat.reduceEqDiff, ↓reduceIte, reduceIte, reduceCtorEq, Nat.reduceAdd, Nat.reduceLeDiff, Nat.reduceSub, Int.reduceToNat, byt, Nat.reduceBEq] | with_reducible refine lw_of (fun _ => ?_) | with_reducible exact True.intro | with_reducible refine fin_same ?_ | with_reducible refine fin_loc ?_ ?_ ?_ | with_reducible exact Loc.refl _ | with_reducible refine Loc.push ?_ _ _ | with_reducible refine Loc.set ?_ _ _ (by first | omega | (simp only [push_n, set_n]; omega)) | with_reducible refine And.intro (by omega) ?_)
  by_cases h : p.length ≤ s.length <;> repeat' (first | simp (maxSteps := 1000000) (disch := omega) only [rb0, rb1, rb2, rb3, rb4, rb5, Od.ev, Ao.dst, Nat.reduceEqDiff, ↓reduceIte, reduceIte, reduceCtorEq, Nat.reduceAdd, Nat.reduceLeDiff, Nat.reduceSub, Int.reduceToNat, byt, Nat.reduceBEq, h] | with_reducible refine lw_of (fun _ => ?_) | with_reducible exact True.intro | with_reducible refine fin_same ?_ | with_reducible refine fin_loc ?_ ?_ ?_ | with_reducible exact Loc.refl _ | with_reducible refine Loc.push ?_ _ _ | with_reducible refine Loc.set ?_ _ _ (by first | omega | (simp only [push_n, set_n]; omega)) | with_reducible refine And.intro (by omega) ?_)
theorem k163 (σ : St) (s p : List UInt8) : ARet Tryz.prog G 163 [.str s, .str p] σ (.tup [.str (if p.isSuffixOf s then s.take (s.length - p.length) else s), .bool (p.isSuffixOf s)]) σ := by
  refine ret_of has163 (Nat.le_of_ble_eq_true rfl) ?_
  simp only [ir163]
  have hp := isSuffixOf_drop p s
  repeat' (first | simp (maxSteps := 1000000) (disch := omega) only [rb0, rb1, rb2, rb3, rb4, rb5, Od.ev, Ao.dst, Nat.reduceEqDiff, ↓reduceIte, reduceIte, reduceCtorEq, Nat.reduceAdd, Nat.reduceLeDiff, Nat.reduceSub, Int.reduceToNat, byt, Nat.reduceBEq] | with_reducible refine lw_of (fun _ => ?_) | with_reducible exact True.intro | with_reducible refine fin_same ?_ | with_reducible refine fin_loc ?_ ?_ ?_ | with_reducible exact Loc.refl _ | with_reducible refine Loc.push ?_ _ _ | with_reducible refine Loc.set ?_ _ _ (by first | omega | (simp only [push_n, set_n]; omega)) | with_reducible refine And.intro (by omega) ?_ | with_reducible refine cw_of (k205 _ _ _) ?_)
  refine bw_split (fun h => ?_) (fun h => ?_)
  · have h' : p.isSuffixOf s = false := by simpa using h
    repeat' (first | simp (maxSteps := 1000000) (disch := omega) only [rb0, rb1, rb2, rb3, rb4, rb5, Od.ev, Ao.dst, Nat.reduceEqDiff, ↓reduceIte, reduceIte, reduceCtorEq, Nat.reduceAdd, Nat.reduceLeDiff, Nat.reduceSub, Int.reduceToNat, byt, Nat.reduceBEq, h', Bool.false_eq_true] | with_reducible refine lw_of (fun _ => ?_) | with_reducible exact True.intro | with_reducible refine fin_same ?_ | with_reducible refine fin_loc ?_ ?_ ?_ | with_reducible exact Loc.refl _ | with_reducible refine Loc.push ?_ _ _ | with_reducible refine Loc.set ?_ _ _ (by first | omega | (simp only [push_n, set_n]; omega)) | with_reducible refine And.intro (by omega) ?_)
  · have h' : p.isSuffixOf s = true := by simpa using h
    rw [h', eq_comm, decide_eq_true_eq] at hp
    have := hp.1
    repeat' (first | simp (maxSteps := 1000000) (disch := omega) only [rb0, rb1, rb2, rb3, rb4, rb5, Od.ev, Ao.dst, Nat.reduceEqDiff, ↓reduceIte, reduceIte, reduceCtorEq, Nat.reduceAdd, Nat.reduceLeDiff, Nat.reduceSub, Int.reduceToNat, byt, Nat.reduceBEq, h'] | with_reducible refine lw_of (fun _ => ?_) | with_reducible exact True.intro | with_reducible refine fin_same ?_ | with_reducible refine fin_loc ?_ ?_ ?_ | with_reducible exact Loc.refl _ | with_reducible refine Loc.push ?_ _ _ | with_reducible refine Loc.set ?_ _ _ (by first | omega | (simp only [push_n, set_n]; omega)) | with_reducible refine And.intro (by omega) ?_)
theorem k109 (σ : St) (s p : List UInt8) : ARet Tryz.prog G 109 [.str s, .str p] σ (.tup [.str (if p.isSuffixOf s then s.take (s.length - p.length) else s), .bool (p.isSuffixOf s)]) σ := by
  refine ret_of has109 (Nat.le_of_ble_eq_true rfl) ?_
  simp only [ir109]
  repeat' (first | simp (maxSteps := 1000000) (disch := omega) only [rb0, rb1, rb2, rb3, rb4, rb5, Od.ev, Ao.dst, Nat.reduceEqDiff, ↓reduceIte, reduceIte, reduceCtorEq, Nat.reduceAdd, Nat.reduceLeDiff, Nat.reduceSub, Int.reduceToNat, byt, Nat.reduceBEq] | with_reducible refine lw_of (fun _ => ?_) | with_reducible exact True.intro | with_reducible refine fin_same ?_ | with_reducible refine fin_loc ?_ ?_ ?_ | with_reducible exact Loc.refl _ | with_reducible refine Loc.push ?_ _ _ | with_reducible refine Loc.set ?_ _ _ (by first | omega | (simp only [push_n, set_n]; omega)) | with_reducible refine And.intro (by omega) ?_ | with_reducible refine cw_of (k163 _ _ _) ?_)
theorem k164 (σ : St) (s p : List UInt8) : ARet Tryz.prog G 164 [.str s, .str p] σ (.str (if p.isSuffixOf s then s.take (s.length - p.length) else s)) σ := by
  refine ret_of has164 (Nat.le_of_ble_eq_true rfl) ?_
  simp only [ir164]
  have hp := isSuffixOf_drop p s
  repeat' (first | simp (maxSteps := 1000000) (disch := omega) only [rb0, rb1, rb2, rb3, rb4, rb5, Od.ev, Ao.dst, Nat.reduceEqDiff, ↓reduceIte, reduceIte, reduceCtorEq, Nat.reduceAdd, Nat.reduceLeDiff, Nat.reduceSub, Int.reduceToNat, byt, Nat.reduceBEq] | with_reducible refine lw_of (fun _ => ?_) | with_reducible exact True.intro | with_reducible refine fin_same ?_ | with_reducible refine fin_loc ?_ ?_ ?_ | with_reducible exact Loc.refl _ | with_reducible refine Loc.push ?_ _ _ | with_reducible refine Loc.set ?_ _ _ (by first | omega | (simp only [push_n, set_n]; omega)) | with_reducible refine And.intro (by omega) ?_ | with_reducible refine cw_of (k205 _ _ _) ?_)
  refine bw_split (fun h => ?_) (fun h => ?_)
  · rw [h, eq_comm, decide_eq_true_eq] at hp
    have := hp.1
    repeat' (first | simp (maxSteps := 1000000) (disch := omega) only [rb0, rb1, rb2, rb3, rb4, rb5, Od.ev, Ao.dst, Nat.reduceEqDiff, ↓reduceIte, reduceIte, reduceCtorEq, Nat.reduceAdd, Nat.reduceLeDiff, Nat.reduceSub, Int.reduceToNat, byt, Nat.reduceBEq, h] | with_reducible refine lw_of (fun _ => ?_) | with_reducible exact True.intro | with_reducible refine fin_same ?_ | with_reducible refine fin_loc ?_ ?_ ?_ | with_reducible exact Loc.refl _ | with_reducible refine Loc.push ?_ _ _ | with_reducible refine Loc.set ?_ _ _ (by first | omega | (simp only [push_n, set_n]; omega)) | with_reducible refine And.intro (by omega) ?_)
  · repeat' (first | simp (maxSteps := 1000000) (disch := omega) only [rb0, rb1, rb2, rb3, rb4, rb5, Od.ev, Ao.dst, Nat.reduceEqDiff, ↓reduceIte, reduceIte, reduceCtorEq, Nat.reduceAdd, Nat.reduceLeDiff, Nat.reduceSub, Int.reduceToNat, byt, Nat.reduceBEq, h, Bool.false_eq_true] | with_reducible refine lw_of (fun _ => ?_) | with_reducible exact True.intro | with_reducible refine fin_same ?_ | with_reducible refine fin_loc ?_ ?_ ?_ | with_reducible exact Loc.refl _ | with_reducible refine Loc.push ?_ _ _ | with_reducible refine Loc.set ?_ _ _ (by first | omega | (simp only [push_n, set_n]; omega)) | with_reducible refine And.intro (by omega) ?_)
theorem k110 (σ : St) (s p : List UInt8) : ARet Tryz.prog G 110 [.str s, .str p] σ (.str (if p.isSuffixOf s then s.take (s.length - p.length) else s)) σ := by
  refine ret_of has110 (Nat.le_of_ble_eq_true rfl) ?_
  simp only [ir110]
  repeat' (first | simp (maxSteps := 1000000) (disch := omega) only [rb0, rb1, rb2, rb3, rb4, rb5, Od.ev, Ao.dst, Nat.reduceEqDiff, ↓reduceIte, reduceIte, reduceCtorEq, Nat.reduceAdd, Nat.reduceLeDiff, Nat.reduceSub, Int.reduceToNat, byt, Nat.reduceBEq] | with_reducible refine lw_of (fun _ => ?_) | with_reducible exact True.intro | with_reducible refine fin_same ?_ | with_reducible refine fin_loc ?_ ?_ ?_ | with_reducible exact Loc.refl _ | with_reducible refine Loc.push ?_ _ _ | with_reducible refine Loc.set ?_ _ _ (by first | omega | (simp only [push_n, set_n]; omega)) | with_reducible refine And.intro (by omega) ?_ | with_reducible refine cw_of (k164 _ _ _) ?_)

/-- A text without what stands at its end. -/
def trimR (f : UInt8 → Bool) (s : List UInt8) : List UInt8 := (s.reverse.dropWhile f).reverse
theorem trimR_snoc (f : UInt8 → Bool) (s : List UInt8) (c : UInt8) : trimR f (s ++ [c]) = if f c then trimR f s else s ++ [c] := by
  unfold trimR
  simp only [List.reverse_append, List.reverse_cons, List.reverse_nil, List.nil_append, List.cons_append, List.dropWhile_cons]
  split <;> simp

theorem u8eq (a b : UInt8) : ((a.toNat : Int) = (b.toNat : Int)) = (a = b) := by
  rw [eq_iff_iff]
  constructor
  · intro h; exact UInt8.toNat_inj.1 (by omega)
  · intro h; rw [h]

theorem k87 (σ : St) (s : List UInt8) (c : UInt8) : ARet Tryz.prog G 87 [.str s, .int .u8 c.toNat] σ (.str (s.dropWhile (· == c))) σ := by
  refine ret_of has87 (Nat.le_of_ble_eq_true rfl) ?_
  simp only [ir87]
  repeat' (first | simp (maxSteps := 1000000) (disch := omega) only [rb0, rb1, rb2, rb3, rb4, rb5, Od.ev, Ao.dst, Nat.reduceEqDiff, ↓reduceIte, reduceIte, reduceCtorEq, Nat.reduceAdd, Nat.reduceLeDiff, Nat.reduceSub, Int.reduceToNat, byt, Nat.reduceBEq] | with_reducible refine lw_of (fun _ => ?_) | with_reducible exact True.intro | with_reducible refine fin_same ?_ | with_reducible refine fin_loc ?_ ?_ ?_ | with_reducible exact Loc.refl _ | with_reducible refine Loc.push ?_ _ _ | with_reducible refine Loc.set ?_ _ _ (by first | omega | (simp only [push_n, set_n]; omega)) | with_reducible refine And.intro (by omega) ?_)
  refine loop_rule (fun n ρ σ' => σ' = σ ∧ ∃ s', n = s'.length ∧ ρ 0 = .str s' ∧ ρ 1 = .int .u8 c.toNat ∧ s'.dropWhile (· == c) = s.dropWhile (· == c)) (fun n ρ σ' hI => ?_) ⟨rfl, s, rfl, rfl, rfl, rfl⟩
  obtain ⟨rfl, s', rfl, h0, h1, h2⟩ := hI
  cases s' with
  | nil =>
    repeat' (first | simp (maxSteps := 1000000) (disch := omega) only [rb0, rb1, rb2, rb3, rb4, rb5, Od.ev, Ao.dst, Nat.reduceEqDiff, ↓reduceIte, reduceIte, reduceCtorEq, Nat.reduceAdd, Nat.reduceLeDiff, Nat.reduceSub, Int.reduceToNat, byt, Nat.reduceBEq, h0, h1] | with_reducible refine lw_of (fun _ => ?_) | with_reducible exact True.intro | with_reducible refine fin_same ?_ | with_reducible refine fin_loc ?_ ?_ ?_ | with_reducible exact Loc.refl _ | with_reducible refine Loc.push ?_ _ _ | with_reducible refine Loc.set ?_ _ _ (by first | omega | (simp only [push_n, set_n]; omega)) | with_reducible refine And.intro (by omega) ?_)
    simpa using h2
  | cons d t =>
    by_cases hd : d = c
    · repeat' (first | simp (maxSteps := 1000000) (disch := omega) only [rb0, rb1, rb2, rb3, rb4, rb5, Od.ev, Ao.dst, Nat.reduceEqDiff, ↓reduceIte, reduceIte, reduceCtorEq, Nat.reduceAdd, Nat.reduceLeDiff, Nat.reduceSub, Int.reduceToNat, byt, Nat.reduceBEq, h0, h1, hd, u8eq] | with_reducible refine lw_of (fun _ => ?_) | with_reducible exact True.intro | with_reducible refine fin_same ?_ | with_reducible refine fin_loc ?_ ?_ ?_ | with_reducible exact Loc.refl _ | with_reducible refine Loc.push ?_ _ _ | with_reducible refine Loc.set ?_ _ _ (by first | omega | (simp only [push_n, set_n]; omega)) | with_reducible refine And.intro (by omega) ?_)
      refine ⟨t.length, by omega, t, rfl, rfl, ?_⟩
      rw [← h2, hd]; simp
    · repeat' (first | simp (maxSteps := 1000000) (disch := omega) only [rb0, rb1, rb2, rb3, rb4, rb5, Od.ev, Ao.dst, Nat.reduceEqDiff, ↓reduceIte, reduceIte, reduceCtorEq, Nat.reduceAdd, Nat.reduceLeDiff, Nat.reduceSub, Int.reduceToNat, byt, Nat.reduceBEq, h0, h1, hd, u8eq] | with_reducible refine lw_of (fun _ => ?_) | with_reducible exact True.intro | with_reducible refine fin_same ?_ | with_reducible refine fin_loc ?_ ?_ ?_ | with_reducible exact Loc.refl _ | with_reducible refine Loc.push ?_ _ _ | with_reducible refine Loc.set ?_ _ _ (by first | omega | (simp only [push_n, set_n]; omega)) | with_reducible refine And.intro (by omega) ?_)
      rw [← h2]; simp [hd]

theorem lastAt (t : List UInt8) (d : UInt8) (k : Nat) (h : k = t.length) : (t ++ [d])[k]? = some d := by subst h; simp

theorem k115 (σ : St) (s : List UInt8) (c : UInt8) : ARet Tryz.prog G 115 [.str s, .int .u8 c.toNat] σ (.str (trimR (· == c) s)) σ := by
  refine ret_of has115 (Nat.le_of_ble_eq_true rfl) ?_
  simp only [ir115]
  repeat' (first | simp (maxSteps := 1000000) (disch := omega) only [rb0, rb1, rb2, rb3, rb4, rb5, Od.ev, Ao.dst, Nat.reduceEqDiff, ↓reduceIte, reduceIte, reduceCtorEq, Nat.reduceAdd, Nat.reduceLeDiff, Nat.reduceSub, Int.reduceToNat, byt, Nat.reduceBEq] | with_reducible refine lw_of (fun _ => ?_) | with_reducible exact True.intro | with_reducible refine fin_same ?_ | with_reducible refine fin_loc ?_ ?_ ?_ | with_reducible exact Loc.refl _ | with_reducible refine Loc.push ?_ _ _ | with_reducible refine Loc.set ?_ _ _ (by first | omega | (simp only [push_n, set_n]; omega)) | with_reducible refine And.intro (by omega) ?_)
  refine loop_rule (fun n ρ σ' => σ' = σ ∧ ∃ s', n = s'.length ∧ ρ 0 = .str s' ∧ ρ 1 = .int .u8 c.toNat ∧ trimR (· == c) s' = trimR (· == c) s) (fun n ρ σ' hI => ?_) ⟨rfl, s, rfl, rfl, rfl, rfl⟩
  obtain ⟨rfl, s', rfl, h0, h1, h2⟩ := hI
  rcases List.eq_nil_or_concat s' with rfl | ⟨t, d, rfl⟩
  · repeat' (first | simp (maxSteps := 1000000) (disch := omega) only [rb0, rb1, rb2, rb3, rb4, rb5, Od.ev, Ao.dst, Nat.reduceEqDiff, ↓reduceIte, reduceIte, reduceCtorEq, Nat.reduceAdd, Nat.reduceLeDiff, Nat.reduceSub, Int.reduceToNat, byt, Nat.reduceBEq, h0, h1] | with_reducible refine lw_of (fun _ => ?_) | with_reducible exact True.intro | with_reducible refine fin_same ?_ | with_reducible refine fin_loc ?_ ?_ ?_ | with_reducible exact Loc.refl _ | with_reducible refine Loc.push ?_ _ _ | with_reducible refine Loc.set ?_ _ _ (by first | omega | (simp only [push_n, set_n]; omega)) | with_reducible refine And.intro (by omega) ?_)
    rw [← h2]; rfl
  · rw [List.concat_eq_append] at h0 h2
    by_cases hd : d = c
    · repeat' (first | simp (maxSteps := 1000000) (disch := omega) only [rb0, rb1, rb2, rb3, rb4, rb5, Od.ev, Ao.dst, Nat.reduceEqDiff, ↓reduceIte, reduceIte, reduceCtorEq, Nat.reduceAdd, Nat.reduceLeDiff, Nat.reduceSub, Int.reduceToNat, byt, Nat.reduceBEq, h0, h1, hd, u8eq, List.length_append, List.concat_eq_append, lastAt, List.take_left'] | with_reducible refine lw_of (fun _ => ?_) | with_reducible exact True.intro | with_reducible refine fin_same ?_ | with_reducible refine fin_loc ?_ ?_ ?_ | with_reducible exact Loc.refl _ | with_reducible refine Loc.push ?_ _ _ | with_reducible refine Loc.set ?_ _ _ (by first | omega | (simp only [push_n, set_n]; omega)) | with_reducible refine And.intro (by omega) ?_)
      refine ⟨t.length, by omega, t, rfl, rfl, ?_⟩
      rw [← h2, trimR_snoc, hd]; simp
    · repeat' (first | simp (maxSteps := 1000000) (disch := omega) only [rb0, rb1, rb2, rb3, rb4, rb5, Od.ev, Ao.dst, Nat.reduceEqDiff, ↓reduceIte, reduceIte, reduceCtorEq, Nat.reduceAdd, Nat.reduceLeDiff, Nat.reduceSub, Int.reduceToNat, byt, Nat.reduceBEq, h0, h1, hd, u8eq, List.length_append, List.concat_eq_append, lastAt] | with_reducible refine lw_of (fun _ => ?_) | with_reducible exact True.intro | with_reducible refine fin_same ?_ | with_reducible refine fin_loc ?_ ?_ ?_ | with_reducible exact Loc.refl _ | with_reducible refine Loc.push ?_ _ _ | with_reducible refine Loc.set ?_ _ _ (by first | omega | (simp only [push_n, set_n]; omega)) | with_reducible refine And.intro (by omega) ?_)
      rw [← h2, trimR_snoc]; simp [hd]
def isOne (p : List UInt8) (c : UInt8) : Prop := p = [c] ∧ c.toNat < 128
theorem k47 (σ : St) (s : List UInt8) (c : UInt8) (hc : c.toNat < 128) : ARet Tryz.prog G 47 [.str s, .str [c]] σ (.str (s.dropWhile (· == c))) σ := by
  refine ret_of has47 (Nat.le_of_ble_eq_true rfl) ?_
  simp only [ir47]
  by_cases h : s = []
  · repeat' (first | simp (maxSteps := 1000000) (disch := omega) only [rb0, rb1, rb2, rb3, rb4, rb5, Od.ev, Ao.dst, Nat.reduceEqDiff, ↓reduceIte, reduceIte, reduceCtorEq, Nat.reduceAdd, Nat.reduceLeDiff, Nat.reduceSub, Int.reduceToNat, byt, Nat.reduceBEq, h, List.dropWhile_nil] | with_reducible refine lw_of (fun _ => ?_) | with_reducible exact True.intro | with_reducible refine fin_same ?_ | with_reducible refine fin_loc ?_ ?_ ?_ | with_reducible exact Loc.refl _ | with_reducible refine Loc.push ?_ _ _ | with_reducible refine Loc.set ?_ _ _ (by first | omega | (simp only [push_n, set_n]; omega)) | with_reducible refine And.intro (by omega) ?_)
  · repeat' (first | simp (maxSteps := 1000000) (disch := omega) only [rb0, rb1, rb2, rb3, rb4, rb5, Od.ev, Ao.dst, Nat.reduceEqDiff, ↓reduceIte, reduceIte, reduceCtorEq, Nat.reduceAdd, Nat.reduceLeDiff, Nat.reduceSub, Int.reduceToNat, byt, Nat.reduceBEq, h] | with_reducible refine lw_of (fun _ => ?_) | with_reducible exact True.intro | with_reducible refine fin_same ?_ | with_reducible refine fin_loc ?_ ?_ ?_ | with_reducible exact Loc.refl _ | with_reducible refine Loc.push ?_ _ _ | with_reducible refine Loc.set ?_ _ _ (by first | omega | (simp only [push_n, set_n]; omega)) | with_reducible refine And.intro (by omega) ?_ | with_reducible refine cw_of (k87 _ _ _) ?_)
theorem k65 (σ : St) (s : List UInt8) (c : UInt8) (hc : c.toNat < 128) : ARet Tryz.prog G 65 [.str s, .str [c]] σ (.str (trimR (· == c) s)) σ := by
  refine ret_of has65 (Nat.le_of_ble_eq_true rfl) ?_
  simp only [ir65]
  by_cases h : s = []
  · repeat' (first | simp (maxSteps := 1000000) (disch := omega) only [rb0, rb1, rb2, rb3, rb4, rb5, Od.ev, Ao.dst, Nat.reduceEqDiff, ↓reduceIte, reduceIte, reduceCtorEq, Nat.reduceAdd, Nat.reduceLeDiff, Nat.reduceSub, Int.reduceToNat, byt, Nat.reduceBEq, h] | with_reducible refine lw_of (fun _ => ?_) | with_reducible exact True.intro | with_reducible refine fin_same ?_ | with_reducible refine fin_loc ?_ ?_ ?_ | with_reducible exact Loc.refl _ | with_reducible refine Loc.push ?_ _ _ | with_reducible refine Loc.set ?_ _ _ (by first | omega | (simp only [push_n, set_n]; omega)) | with_reducible refine And.intro (by omega) ?_)
    rfl
  · repeat' (first | simp (maxSteps := 1000000) (disch := omega) only [rb0, rb1, rb2, rb3, rb4, rb5, Od.ev, Ao.dst, Nat.reduceEqDiff, ↓reduceIte, reduceIte, reduceCtorEq, Nat.reduceAdd, Nat.reduceLeDiff, Nat.reduceSub, Int.reduceToNat, byt, Nat.reduceBEq, h] | with_reducible refine lw_of (fun _ => ?_) | with_reducible exact True.intro | with_reducible refine fin_same ?_ | with_reducible refine fin_loc ?_ ?_ ?_ | with_reducible exact Loc.refl _ | with_reducible refine Loc.push ?_ _ _ | with_reducible refine Loc.set ?_ _ _ (by first | omega | (simp only [push_n, set_n]; omega)) | with_reducible refine And.intro (by omega) ?_ | with_reducible refine cw_of (k115 _ _ _) ?_)
end Gx

/- Part Ir7. -/
open Go Go.Proofs Gx
namespace Gx
def ir247 : If := ⟨172, [.t 6, .t 7],
 .seq (.reg <|
   .one none (.tk 6 (.c (.int .u64 0))) <|
   .one none (.tk 7 (.c .nili)) <|
   .nil) <|
 .seq (.seq (.reg <|
    .one none (.mv 18 (.t 0)) <|
    .one none (.bi 19 .eql (.t 18) (.c (.str []))) <|
    .nil) <|
  .cond (.t 19) (.seq (.reg <|
     .one none (.bad (some 20)) <|
     .one none (.tk 6 (.c (.int .u64 0))) <|
     .one none (.tk 7 (.t 20)) <|
     .nil) <|
   .ret) <|
  .skip) <|
 .seq (.reg <|
   .one none (.mv 21 (.t 1)) <|
   .one none (.bi 22 .eql (.t 21) (.c (.int .i64 0))) <|
   .one none (.tk 8 (.t 22)) <|
   .nil) <|
 .seq (.reg <|
   .one none (.mv 23 (.t 0)) <|
   .one none (.tk 9 (.t 23)) <|
   .nil) <|
 .seq (.block 0 <|
  .seq (.reg <|
    .one none (.mv 26 (.t 1)) <|
    .one none (.bi 27 .leq (.c (.int .i64 2)) (.t 26)) <|
    .one none (.mv 28 (.t 27)) <|
    .one (some (28, true)) (.mv 29 (.t 1)) <|
    .one (some (28, true)) (.bi 30 .leq (.t 29) (.c (.int .i64 36))) <|
    .one none (.pk 31 (.t 28) (.t 30) (.c (.bool false))) <|
    .one none (.tk 25 (.t 31)) <|
    .nil) <|
  .cond (.t 25) (.skip) <|
  .seq (.reg <|
    .one none (.mv 33 (.t 1)) <|
    .one none (.bi 34 .eql (.t 33) (.c (.int .i64 0))) <|
    .one none (.tk 32 (.t 34)) <|
    .nil) <|
  .cond (.t 32) (.seq (.reg <|
     .one none (.tk 1 (.c (.int .i64 10))) <|
     .nil) <|
   .seq (.reg <|
     .one none (.mv 35 (.t 0)) <|
     .one none (.ix 36 (.t 35) (.c (.int .i64 0))) <|
     .one none (.bi 37 .eql (.t 36) (.c (.int .u8 48))) <|
     .nil) <|
   .cond (.t 37) (.block 1 <|
    .seq (.reg <|
      .one none (.mv 41 (.t 0)) <|
      .one none (.ln 42 true (.t 41)) <|
      .one none (.bi 43 .geq (.t 42) (.c (.int .i64 3))) <|
      .one none (.mv 44 (.t 43)) <|
      .one (some (44, true)) (.mv 45 (.t 0)) <|
      .one (some (44, true)) (.ix 46 (.t 45) (.c (.int .i64 1))) <|
      .one (some (44, true)) (.ca (some 47) (.c (.clo 261 [] [])) [(false, (.t 46))]) <|
      .one (some (44, true)) (.bi 48 .eql (.t 47) (.c (.int .u8 98))) <|
      .one none (.pk 49 (.t 44) (.t 48) (.c (.bool false))) <|
      .one none (.tk 40 (.t 49)) <|
      .nil) <|
    .cond (.t 40) (.seq (.reg <|
       .one none (.tk 1 (.c (.int .i64 2))) <|
       .nil) <|
     .reg <|
      .one none (.mv 50 (.t 0)) <|
      .one none (.sc 51 0 (.t 50) (some (.c (.int .i64 2))) none none) <|
      .one none (.tk 0 (.t 51)) <|
      .nil) <|
    .seq (.reg <|
      .one none (.mv 53 (.t 0)) <|
      .one none (.ln 54 true (.t 53)) <|
      .one none (.bi 55 .geq (.t 54) (.c (.int .i64 3))) <|
      .one none (.mv 56 (.t 55)) <|
      .one (some (56, true)) (.mv 57 (.t 0)) <|
      .one (some (56, true)) (.ix 58 (.t 57) (.c (.int .i64 1))) <|
      .one (some (56, true)) (.ca (some 59) (.c (.clo 261 [] [])) [(false, (.t 58))]) <|
      .one (some (56, true)) (.bi 60 .eql (.t 59) (.c (.int .u8 111))) <|
      .one none (.pk 61 (.t 56) (.t 60) (.c (.bool false))) <|
      .one none (.tk 52 (.t 61)) <|
      .nil) <|
    .cond (.t 52) (.seq (.reg <|
       .one none (.tk 1 (.c (.int .i64 8))) <|
       .nil) <|
     .reg <|
      .one none (.mv 62 (.t 0)) <|
      .one none (.sc 63 0 (.t 62) (some (.c (.int .i64 2))) none none) <|
      .one none (.tk 0 (.t 63)) <|
      .nil) <|
    .seq (.reg <|
      .one none (.mv 65 (.t 0)) <|
      .one none (.ln 66 true (.t 65)) <|
      .one none (.bi 67 .geq (.t 66) (.c (.int .i64 3))) <|
      .one none (.mv 68 (.t 67)) <|
      .one (some (68, true)) (.mv 69 (.t 0)) <|
      .one (some (68, true)) (.ix 70 (.t 69) (.c (.int .i64 1))) <|
      .one (some (68, true)) (.ca (some 71) (.c (.clo 261 [] [])) [(false, (.t 70))]) <|
      .one (some (68, true)) (.bi 72 .eql (.t 71) (.c (.int .u8 120))) <|
      .one none (.pk 73 (.t 68) (.t 72) (.c (.bool false))) <|
      .one none (.tk 64 (.t 73)) <|
      .nil) <|
    .cond (.t 64) (.seq (.reg <|
       .one none (.tk 1 (.c (.int .i64 16))) <|
       .nil) <|
     .reg <|
      .one none (.mv 74 (.t 0)) <|
      .one none (.sc 75 0 (.t 74) (some (.c (.int .i64 2))) none none) <|
      .one none (.tk 0 (.t 75)) <|
      .nil) <|
    .seq (.reg <|
      .one none (.tk 1 (.c (.int .i64 8))) <|
      .nil) <|
    .reg <|
     .one none (.mv 38 (.t 0)) <|
     .one none (.sc 39 0 (.t 38) (some (.c (.int .i64 1))) none none) <|
     .one none (.tk 0 (.t 39)) <|
     .nil) <|
   .skip) <|
  .seq (.reg <|
    .one none (.bad (some 24)) <|
    .one none (.tk 6 (.c (.int .u64 0))) <|
    .one none (.tk 7 (.t 24)) <|
    .nil) <|
  .ret) <|
 .seq (.seq (.reg <|
    .one none (.mv 76 (.t 2)) <|
    .one none (.bi 77 .eql (.t 76) (.c (.int .i64 0))) <|
    .nil) <|
  .cond (.t 77) (.reg <|
    .one none (.tk 2 (.c (.int .i64 64))) <|
    .nil) <|
  .seq (.reg <|
    .one none (.mv 78 (.t 2)) <|
    .one none (.bi 79 .lss (.t 78) (.c (.int .i64 0))) <|
    .one none (.mv 80 (.t 79)) <|
    .one (some (80, false)) (.mv 81 (.t 2)) <|
    .one (some (80, false)) (.bi 82 .gtr (.t 81) (.c (.int .i64 64))) <|
    .one none (.pk 83 (.t 80) (.c (.bool true)) (.t 82)) <|
    .nil) <|
  .cond (.t 83) (.seq (.reg <|
     .one none (.bad (some 84)) <|
     .one none (.tk 6 (.c (.int .u64 0))) <|
     .one none (.tk 7 (.t 84)) <|
     .nil) <|
   .ret) <|
  .skip) <|
 .seq (.reg <|
   .one none (.tk 10 (.c (.int .u64 0))) <|
   .nil) <|
 .seq (.seq (.reg <|
    .one none (.mv 85 (.t 1)) <|
    .nil) <|
  .block 2 <|
  .seq (.reg <|
    .one none (.bi 91 .eql (.t 85) (.c (.int .i64 10))) <|
    .one none (.tk 90 (.t 91)) <|
    .nil) <|
  .cond (.t 90) (.reg <|
    .one none (.tk 10 (.c (.int .u64 1844674407370955162))) <|
    .nil) <|
  .seq (.reg <|
    .one none (.bi 93 .eql (.t 85) (.c (.int .i64 16))) <|
    .one none (.tk 92 (.t 93)) <|
    .nil) <|
  .cond (.t 92) (.reg <|
    .one none (.tk 10 (.c (.int .u64 1152921504606846976))) <|
    .nil) <|
  .reg <|
   .one none (.mv 86 (.t 1)) <|
   .one none (.cv 87 (.ints .u64) (.t 86)) <|
   .one none (.bi 88 .quo (.c (.int .u64 18446744073709551615)) (.t 87)) <|
   .one none (.bi 89 .add (.t 88) (.c (.int .u64 1))) <|
   .one none (.tk 10 (.t 89)) <|
   .nil) <|
 .seq (.reg <|
   .one none (.mv 94 (.t 2)) <|
   .one none (.cv 95 (.ints .u64) (.t 94)) <|
   .one none (.bi 96 .shl (.c (.int .u64 1)) (.t 95)) <|
   .one none (.bi 97 .sub (.t 96) (.c (.int .u64 1))) <|
   .one none (.tk 11 (.t 97)) <|
   .nil) <|
 .seq (.reg <|
   .one none (.tk 12 (.c (.bool false))) <|
   .nil) <|
 .seq (.reg <|
   .one none (.tk 13 (.c (.int .u64 0))) <|
   .nil) <|
 .seq (.seq (.reg <|
    .one none (.mv 98 (.t 0)) <|
    .one none (.bad (some 99)) <|
    .one none (.ln 100 false (.t 99)) <|
    .one none (.mv 101 (.c (.int .i64 0))) <|
    .nil) <|
  .block 3 <|
  .loop <|
  .seq (.reg <|
    .one none (.bi 102 .lss (.t 101) (.t 100)) <|
    .nil) <|
  .seq (.cond (.t 102) (.skip) <|
   .exit 3) <|
  .seq (.block 4 <|
   .seq (.reg <|
     .one none (.ia 103 1 (.t 99) (.t 101)) <|
     .one none (.ld 104 none (.t 103)) <|
     .one none (.tk 15 (.t 104)) <|
     .nil) <|
   .seq (.reg <|
     .one none (.tk 16 (.c (.int .u8 0))) <|
     .nil) <|
   .seq (.block 5 <|
    .seq (.reg <|
      .one none (.mv 107 (.t 15)) <|
      .one none (.bi 108 .eql (.t 107) (.c (.int .u8 95))) <|
      .one none (.mv 109 (.t 108)) <|
      .one (some (109, true)) (.mv 110 (.t 8)) <|
      .one none (.pk 111 (.t 109) (.t 110) (.c (.bool false))) <|
      .one none (.tk 106 (.t 111)) <|
      .nil) <|
    .cond (.t 106) (.seq (.reg <|
       .one none (.tk 12 (.c (.bool true))) <|
       .nil) <|
     .exit 4) <|
    .seq (.reg <|
      .one none (.mv 113 (.t 15)) <|
      .one none (.bi 114 .leq (.c (.int .u8 48)) (.t 113)) <|
      .one none (.mv 115 (.t 114)) <|
      .one (some (115, true)) (.mv 116 (.t 15)) <|
      .one (some (115, true)) (.bi 117 .leq (.t 116) (.c (.int .u8 57))) <|
      .one none (.pk 118 (.t 115) (.t 117) (.c (.bool false))) <|
      .one none (.tk 112 (.t 118)) <|
      .nil) <|
    .cond (.t 112) (.reg <|
      .one none (.mv 119 (.t 15)) <|
      .one none (.bi 120 .sub (.t 119) (.c (.int .u8 48))) <|
      .one none (.tk 16 (.t 120)) <|
      .nil) <|
    .seq (.reg <|
      .one none (.mv 122 (.t 15)) <|
      .one none (.ca (some 123) (.c (.clo 261 [] [])) [(false, (.t 122))]) <|
      .one none (.bi 124 .leq (.c (.int .u8 97)) (.t 123)) <|
      .one none (.mv 125 (.t 124)) <|
      .one (some (125, true)) (.mv 126 (.t 15)) <|
      .one (some (125, true)) (.ca (some 127) (.c (.clo 261 [] [])) [(false, (.t 126))]) <|
      .one (some (125, true)) (.bi 128 .leq (.t 127) (.c (.int .u8 122))) <|
      .one none (.pk 129 (.t 125) (.t 128) (.c (.bool false))) <|
      .one none (.tk 121 (.t 129)) <|
      .nil) <|
    .cond (.t 121) (.reg <|
      .one none (.mv 130 (.t 15)) <|
      .one none (.ca (some 131) (.c (.clo 261 [] [])) [(false, (.t 130))]) <|
      .one none (.bi 132 .sub (.t 131) (.c (.int .u8 97))) <|
      .one none (.bi 133 .add (.t 132) (.c (.int .u8 10))) <|
      .one none (.tk 16 (.t 133)) <|
      .nil) <|
    .seq (.reg <|
      .one none (.bad (some 105)) <|
      .one none (.tk 6 (.c (.int .u64 0))) <|
      .one none (.tk 7 (.t 105)) <|
      .nil) <|
    .ret) <|
   .seq (.seq (.reg <|
      .one none (.mv 134 (.t 16)) <|
      .one none (.mv 135 (.t 1)) <|
      .one none (.cv 136 (.ints .u8) (.t 135)) <|
      .one none (.bi 137 .geq (.t 134) (.t 136)) <|
      .nil) <|
    .cond (.t 137) (.seq (.reg <|
       .one none (.bad (some 138)) <|
       .one none (.tk 6 (.c (.int .u64 0))) <|
       .one none (.tk 7 (.t 138)) <|
       .nil) <|
     .ret) <|
    .skip) <|
   .seq (.seq (.reg <|
      .one none (.mv 139 (.t 13)) <|
      .one none (.mv 140 (.t 10)) <|
      .one none (.bi 141 .geq (.t 139) (.t 140)) <|
      .nil) <|
    .cond (.t 141) (.seq (.reg <|
       .one none (.mv 142 (.t 11)) <|
       .one none (.bad (some 143)) <|
       .one none (.tk 6 (.t 142)) <|
       .one none (.tk 7 (.t 143)) <|
       .nil) <|
     .ret) <|
    .skip) <|
   .seq (.reg <|
     .one none (.mv 144 (.t 13)) <|
     .one none (.mv 145 (.t 1)) <|
     .one none (.cv 146 (.ints .u64) (.t 145)) <|
     .one none (.bi 147 .mul (.t 144) (.t 146)) <|
     .one none (.tk 13 (.t 147)) <|
     .nil) <|
   .seq (.reg <|
     .one none (.mv 148 (.t 13)) <|
     .one none (.mv 149 (.t 16)) <|
     .one none (.cv 150 (.ints .u64) (.t 149)) <|
     .one none (.bi 151 .add (.t 148) (.t 150)) <|
     .one none (.tk 17 (.t 151)) <|
     .nil) <|
   .seq (.seq (.reg <|
      .one none (.mv 152 (.t 17)) <|
      .one none (.mv 153 (.t 13)) <|
      .one none (.bi 154 .lss (.t 152) (.t 153)) <|
      .one none (.mv 155 (.t 154)) <|
      .one (some (155, false)) (.mv 156 (.t 17)) <|
      .one (some (155, false)) (.mv 157 (.t 11)) <|
      .one (some (155, false)) (.bi 158 .gtr (.t 156) (.t 157)) <|
      .one none (.pk 159 (.t 155) (.c (.bool true)) (.t 158)) <|
      .nil) <|
    .cond (.t 159) (.seq (.reg <|
       .one none (.mv 160 (.t 11)) <|
       .one none (.bad (some 161)) <|
       .one none (.tk 6 (.t 160)) <|
       .one none (.tk 7 (.t 161)) <|
       .nil) <|
     .ret) <|
    .skip) <|
   .reg <|
    .one none (.mv 162 (.t 17)) <|
    .one none (.tk 13 (.t 162)) <|
    .nil) <|
  .reg <|
   .one none (.bi 163 .add (.t 101) (.c (.int .i64 1))) <|
   .one none (.mv 101 (.t 163)) <|
   .nil) <|
 .seq (.seq (.reg <|
    .one none (.mv 164 (.t 12)) <|
    .one none (.mv 165 (.t 164)) <|
    .one (some (165, true)) (.mv 166 (.t 9)) <|
    .one (some (165, true)) (.ca (some 167) (.c (.clo 262 [] [])) [(false, (.t 166))]) <|
    .one (some (165, true)) (.no 168 .not (.t 167)) <|
    .one none (.pk 169 (.t 165) (.t 168) (.c (.bool false))) <|
    .nil) <|
  .cond (.t 169) (.seq (.reg <|
     .one none (.bad (some 170)) <|
     .one none (.tk 6 (.c (.int .u64 0))) <|
     .one none (.tk 7 (.t 170)) <|
     .nil) <|
   .ret) <|
  .skip) <|
 .seq (.reg <|
   .one none (.mv 171 (.t 13)) <|
   .one none (.tk 6 (.t 171)) <|
   .one none (.tk 7 (.c .nili)) <|
   .nil) <|
 .ret⟩
theorem has247 : Has Tryz.prog [] 247 ir247 := has_of Tryz.func247 (by kernel_rfl)
def ir248 : If := ⟨16, [.t 4],
 .seq (.reg <|
   .one none (.tk 4 (.c (.sl true []))) <|
   .nil) <|
 .seq (.seq (.reg <|
    .one none (.mv 5 (.t 1)) <|
    .one none (.cv 6 (.ints .u32) (.t 5)) <|
    .one none (.bi 7 .leq (.t 6) (.c (.int .u32 127))) <|
    .nil) <|
  .cond (.t 7) (.seq (.reg <|
     .one none (.tk 8 (.t 0)) <|
     .one none (.mv 9 (.t 1)) <|
     .one none (.cv 10 (.ints .u8) (.t 9)) <|
     .one none (.bs 11 5 1 [(.t 10)]) <|
     .one none (.ap 12 5 1 (.t 8) (.t 11)) <|
     .one none (.tk 4 (.t 12)) <|
     .nil) <|
   .ret) <|
  .skip) <|
 .seq (.reg <|
   .one none (.mv 13 (.t 0)) <|
   .one none (.mv 14 (.t 1)) <|
   .one none (.ca (some 15) (.c (.clo 263 [] [])) [(false, (.t 13)), (false, (.t 14))]) <|
   .one none (.tk 4 (.t 15)) <|
   .nil) <|
 .ret⟩
theorem has248 : Has Tryz.prog [] 248 ir248 := has_of Tryz.func248 (by kernel_rfl)
def ir261 : If := ⟨5, [.t 2],
 .seq (.reg <|
   .one none (.tk 2 (.c (.int .u8 0))) <|
   .nil) <|
 .seq (.reg <|
   .one none (.mv 3 (.t 0)) <|
   .one none (.bi 4 .or (.t 3) (.c (.int .u8 32))) <|
   .one none (.tk 2 (.t 4)) <|
   .nil) <|
 .ret⟩
theorem has261 : Has Tryz.prog [] 261 ir261 := has_of Tryz.func261 (by kernel_rfl)
def ir262 : If := ⟨94, [.t 2],
 .seq (.reg <|
   .one none (.tk 2 (.c (.bool false))) <|
   .nil) <|
 .seq (.reg <|
   .one none (.tk 3 (.c (.int .i32 94))) <|
   .nil) <|
 .seq (.reg <|
   .one none (.tk 4 (.c (.int .i64 0))) <|
   .nil) <|
 .seq (.seq (.reg <|
    .one none (.mv 6 (.t 0)) <|
    .one none (.ln 7 true (.t 6)) <|
    .one none (.bi 8 .geq (.t 7) (.c (.int .i64 1))) <|
    .one none (.mv 9 (.t 8)) <|
    .one (some (9, true)) (.mv 10 (.t 0)) <|
    .one (some (9, true)) (.ix 11 (.t 10) (.c (.int .i64 0))) <|
    .one (some (9, true)) (.bi 12 .eql (.t 11) (.c (.int .u8 45))) <|
    .one (some (9, true)) (.mv 13 (.t 12)) <|
    .one (some (13, false)) (.mv 14 (.t 0)) <|
    .one (some (13, false)) (.ix 15 (.t 14) (.c (.int .i64 0))) <|
    .one (some (13, false)) (.bi 16 .eql (.t 15) (.c (.int .u8 43))) <|
    .one (some (9, true)) (.pk 17 (.t 13) (.c (.bool true)) (.t 16)) <|
    .one none (.pk 18 (.t 9) (.t 17) (.c (.bool false))) <|
    .nil) <|
  .cond (.t 18) (.reg <|
    .one none (.mv 19 (.t 0)) <|
    .one none (.sc 20 0 (.t 19) (some (.c (.int .i64 1))) none none) <|
    .one none (.tk 0 (.t 20)) <|
    .nil) <|
  .skip) <|
 .seq (.reg <|
   .one none (.tk 5 (.c (.bool false))) <|
   .nil) <|
 .seq (.seq (.reg <|
    .one none (.mv 21 (.t 0)) <|
    .one none (.ln 22 true (.t 21)) <|
    .one none (.bi 23 .geq (.t 22) (.c (.int .i64 2))) <|
    .one none (.mv 24 (.t 23)) <|
    .one (some (24, true)) (.mv 25 (.t 0)) <|
    .one (some (24, true)) (.ix 26 (.t 25) (.c (.int .i64 0))) <|
    .one (some (24, true)) (.bi 27 .eql (.t 26) (.c (.int .u8 48))) <|
    .one none (.pk 28 (.t 24) (.t 27) (.c (.bool false))) <|
    .one none (.mv 29 (.t 28)) <|
    .one (some (29, true)) (.mv 30 (.t 0)) <|
    .one (some (29, true)) (.ix 31 (.t 30) (.c (.int .i64 1))) <|
    .one (some (29, true)) (.ca (some 32) (.c (.clo 261 [] [])) [(false, (.t 31))]) <|
    .one (some (29, true)) (.bi 33 .eql (.t 32) (.c (.int .u8 98))) <|
    .one (some (29, true)) (.mv 34 (.t 33)) <|
    .one (some (34, false)) (.mv 35 (.t 0)) <|
    .one (some (34, false)) (.ix 36 (.t 35) (.c (.int .i64 1))) <|
    .one (some (34, false)) (.ca (some 37) (.c (.clo 261 [] [])) [(false, (.t 36))]) <|
    .one (some (34, false)) (.bi 38 .eql (.t 37) (.c (.int .u8 111))) <|
    .one (some (29, true)) (.pk 39 (.t 34) (.c (.bool true)) (.t 38)) <|
    .one (some (29, true)) (.mv 40 (.t 39)) <|
    .one (some (40, false)) (.mv 41 (.t 0)) <|
    .one (some (40, false)) (.ix 42 (.t 41) (.c (.int .i64 1))) <|
    .one (some (40, false)) (.ca (some 43) (.c (.clo 261 [] [])) [(false, (.t 42))]) <|
    .one (some (40, false)) (.bi 44 .eql (.t 43) (.c (.int .u8 120))) <|
    .one (some (29, true)) (.pk 45 (.t 40) (.c (.bool true)) (.t 44)) <|
    .one none (.pk 46 (.t 29) (.t 45) (.c (.bool false))) <|
    .nil) <|
  .cond (.t 46) (.seq (.reg <|
     .one none (.tk 4 (.c (.int .i64 2))) <|
     .nil) <|
   .seq (.reg <|
     .one none (.tk 3 (.c (.int .i32 48))) <|
     .nil) <|
   .reg <|
    .one none (.mv 47 (.t 0)) <|
    .one none (.ix 48 (.t 47) (.c (.int .i64 1))) <|
    .one none (.ca (some 49) (.c (.clo 261 [] [])) [(false, (.t 48))]) <|
    .one none (.bi 50 .eql (.t 49) (.c (.int .u8 120))) <|
    .one none (.tk 5 (.t 50)) <|
    .nil) <|
  .skip) <|
 .seq (.block 0 <|
  .loop <|
  .seq (.seq (.reg <|
     .one none (.mv 51 (.t 4)) <|
     .one none (.mv 52 (.t 0)) <|
     .one none (.ln 53 true (.t 52)) <|
     .one none (.bi 54 .lss (.t 51) (.t 53)) <|
     .nil) <|
   .cond (.t 54) (.skip) <|
   .exit 0) <|
  .seq (.block 1 <|
   .seq (.seq (.reg <|
      .one none (.mv 57 (.t 0)) <|
      .one none (.mv 58 (.t 4)) <|
      .one none (.ix 59 (.t 57) (.t 58)) <|
      .one none (.bi 60 .leq (.c (.int .u8 48)) (.t 59)) <|
      .one none (.mv 61 (.t 60)) <|
      .one (some (61, true)) (.mv 62 (.t 0)) <|
      .one (some (61, true)) (.mv 63 (.t 4)) <|
      .one (some (61, true)) (.ix 64 (.t 62) (.t 63)) <|
      .one (some (61, true)) (.bi 65 .leq (.t 64) (.c (.int .u8 57))) <|
      .one none (.pk 66 (.t 61) (.t 65) (.c (.bool false))) <|
      .one none (.mv 67 (.t 66)) <|
      .one (some (67, false)) (.mv 68 (.t 5)) <|
      .one (some (67, false)) (.mv 69 (.t 68)) <|
      .one (some (69, true)) (.mv 70 (.t 0)) <|
      .one (some (69, true)) (.mv 71 (.t 4)) <|
      .one (some (69, true)) (.ix 72 (.t 70) (.t 71)) <|
      .one (some (69, true)) (.ca (some 73) (.c (.clo 261 [] [])) [(false, (.t 72))]) <|
      .one (some (69, true)) (.bi 74 .leq (.c (.int .u8 97)) (.t 73)) <|
      .one (some (67, false)) (.pk 75 (.t 69) (.t 74) (.c (.bool false))) <|
      .one (some (67, false)) (.mv 76 (.t 75)) <|
      .one (some (76, true)) (.mv 77 (.t 0)) <|
      .one (some (76, true)) (.mv 78 (.t 4)) <|
      .one (some (76, true)) (.ix 79 (.t 77) (.t 78)) <|
      .one (some (76, true)) (.ca (some 80) (.c (.clo 261 [] [])) [(false, (.t 79))]) <|
      .one (some (76, true)) (.bi 81 .leq (.t 80) (.c (.int .u8 102))) <|
      .one (some (67, false)) (.pk 82 (.t 76) (.t 81) (.c (.bool false))) <|
      .one none (.pk 83 (.t 67) (.c (.bool true)) (.t 82)) <|
      .nil) <|
    .cond (.t 83) (.seq (.reg <|
       .one none (.tk 3 (.c (.int .i32 48))) <|
       .nil) <|
     .exit 1) <|
    .skip) <|
   .seq (.seq (.reg <|
      .one none (.mv 84 (.t 0)) <|
      .one none (.mv 85 (.t 4)) <|
      .one none (.ix 86 (.t 84) (.t 85)) <|
      .one none (.bi 87 .eql (.t 86) (.c (.int .u8 95))) <|
      .nil) <|
    .cond (.t 87) (.seq (.seq (.reg <|
        .one none (.mv 88 (.t 3)) <|
        .one none (.bi 89 .neq (.t 88) (.c (.int .i32 48))) <|
        .nil) <|
      .cond (.t 89) (.seq (.reg <|
         .one none (.tk 2 (.c (.bool false))) <|
         .nil) <|
       .ret) <|
      .skip) <|
     .seq (.reg <|
       .one none (.tk 3 (.c (.int .i32 95))) <|
       .nil) <|
     .exit 1) <|
    .skip) <|
   .seq (.seq (.reg <|
      .one none (.mv 90 (.t 3)) <|
      .one none (.bi 91 .eql (.t 90) (.c (.int .i32 95))) <|
      .nil) <|
    .cond (.t 91) (.seq (.reg <|
       .one none (.tk 2 (.c (.bool false))) <|
       .nil) <|
     .ret) <|
    .skip) <|
   .reg <|
    .one none (.tk 3 (.c (.int .i32 33))) <|
    .nil) <|
  .reg <|
   .one none (.mv 55 (.t 4)) <|
   .one none (.bi 56 .add (.t 55) (.c (.int .i64 1))) <|
   .one none (.tk 4 (.t 56)) <|
   .nil) <|
 .seq (.reg <|
   .one none (.mv 92 (.t 3)) <|
   .one none (.bi 93 .neq (.t 92) (.c (.int .i32 95))) <|
   .one none (.tk 2 (.t 93)) <|
   .nil) <|
 .ret⟩
theorem has262 : Has Tryz.prog [] 262 ir262 := has_of Tryz.func262 (by kernel_rfl)
end Gx

/- Part Ir8. -/
open Go Go.Proofs Gx
namespace Gx
def ir263 : If := ⟨78, [.t 4],
 .seq (.reg <|
   .one none (.tk 4 (.c (.sl true []))) <|
   .nil) <|
 .seq (.reg <|
   .one none (.mv 6 (.t 1)) <|
   .one none (.cv 7 (.ints .u32) (.t 6)) <|
   .one none (.tk 5 (.t 7)) <|
   .nil) <|
 .block 0 <|
 .seq (.reg <|
   .one none (.mv 12 (.t 5)) <|
   .one none (.bi 13 .leq (.t 12) (.c (.int .u32 2047))) <|
   .one none (.tk 11 (.t 13)) <|
   .nil) <|
 .cond (.t 11) (.seq (.reg <|
    .one none (.tk 14 (.t 0)) <|
    .one none (.mv 15 (.t 1)) <|
    .one none (.bi 16 .shr (.t 15) (.c (.int .u64 6))) <|
    .one none (.cv 17 (.ints .u8) (.t 16)) <|
    .one none (.bi 18 .or (.c (.int .u8 192)) (.t 17)) <|
    .one none (.mv 19 (.t 1)) <|
    .one none (.cv 20 (.ints .u8) (.t 19)) <|
    .one none (.bi 21 .and (.t 20) (.c (.int .u8 63))) <|
    .one none (.bi 22 .or (.c (.int .u8 128)) (.t 21)) <|
    .one none (.bs 23 5 1 [(.t 18), (.t 22)]) <|
    .one none (.ap 24 5 1 (.t 14) (.t 23)) <|
    .one none (.tk 4 (.t 24)) <|
    .nil) <|
  .ret) <|
 .seq (.seq (.reg <|
    .one none (.mv 26 (.t 5)) <|
    .one none (.bi 27 .lss (.t 26) (.c (.int .u32 55296))) <|
    .one none (.tk 25 (.t 27)) <|
    .nil) <|
  .cond (.t 25) (.skip) <|
  .reg <|
   .one none (.mv 28 (.t 5)) <|
   .one none (.bi 29 .lss (.c (.int .u32 57343)) (.t 28)) <|
   .one none (.mv 30 (.t 29)) <|
   .one (some (30, true)) (.mv 31 (.t 5)) <|
   .one (some (30, true)) (.bi 32 .leq (.t 31) (.c (.int .u32 65535))) <|
   .one none (.pk 33 (.t 30) (.t 32) (.c (.bool false))) <|
   .one none (.tk 25 (.t 33)) <|
   .nil) <|
 .cond (.t 25) (.seq (.reg <|
    .one none (.tk 34 (.t 0)) <|
    .one none (.mv 35 (.t 1)) <|
    .one none (.bi 36 .shr (.t 35) (.c (.int .u64 12))) <|
    .one none (.cv 37 (.ints .u8) (.t 36)) <|
    .one none (.bi 38 .or (.c (.int .u8 224)) (.t 37)) <|
    .one none (.mv 39 (.t 1)) <|
    .one none (.bi 40 .shr (.t 39) (.c (.int .u64 6))) <|
    .one none (.cv 41 (.ints .u8) (.t 40)) <|
    .one none (.bi 42 .and (.t 41) (.c (.int .u8 63))) <|
    .one none (.bi 43 .or (.c (.int .u8 128)) (.t 42)) <|
    .one none (.mv 44 (.t 1)) <|
    .one none (.cv 45 (.ints .u8) (.t 44)) <|
    .one none (.bi 46 .and (.t 45) (.c (.int .u8 63))) <|
    .one none (.bi 47 .or (.c (.int .u8 128)) (.t 46)) <|
    .one none (.bs 48 5 1 [(.t 38), (.t 43), (.t 47)]) <|
    .one none (.ap 49 5 1 (.t 34) (.t 48)) <|
    .one none (.tk 4 (.t 49)) <|
    .nil) <|
  .ret) <|
 .seq (.reg <|
   .one none (.mv 51 (.t 5)) <|
   .one none (.bi 52 .gtr (.t 51) (.c (.int .u32 65535))) <|
   .one none (.mv 53 (.t 52)) <|
   .one (some (53, true)) (.mv 54 (.t 5)) <|
   .one (some (53, true)) (.bi 55 .leq (.t 54) (.c (.int .u32 1114111))) <|
   .one none (.pk 56 (.t 53) (.t 55) (.c (.bool false))) <|
   .one none (.tk 50 (.t 56)) <|
   .nil) <|
 .cond (.t 50) (.seq (.reg <|
    .one none (.tk 57 (.t 0)) <|
    .one none (.mv 58 (.t 1)) <|
    .one none (.bi 59 .shr (.t 58) (.c (.int .u64 18))) <|
    .one none (.cv 60 (.ints .u8) (.t 59)) <|
    .one none (.bi 61 .or (.c (.int .u8 240)) (.t 60)) <|
    .one none (.mv 62 (.t 1)) <|
    .one none (.bi 63 .shr (.t 62) (.c (.int .u64 12))) <|
    .one none (.cv 64 (.ints .u8) (.t 63)) <|
    .one none (.bi 65 .and (.t 64) (.c (.int .u8 63))) <|
    .one none (.bi 66 .or (.c (.int .u8 128)) (.t 65)) <|
    .one none (.mv 67 (.t 1)) <|
    .one none (.bi 68 .shr (.t 67) (.c (.int .u64 6))) <|
    .one none (.cv 69 (.ints .u8) (.t 68)) <|
    .one none (.bi 70 .and (.t 69) (.c (.int .u8 63))) <|
    .one none (.bi 71 .or (.c (.int .u8 128)) (.t 70)) <|
    .one none (.mv 72 (.t 1)) <|
    .one none (.cv 73 (.ints .u8) (.t 72)) <|
    .one none (.bi 74 .and (.t 73) (.c (.int .u8 63))) <|
    .one none (.bi 75 .or (.c (.int .u8 128)) (.t 74)) <|
    .one none (.bs 76 5 1 [(.t 61), (.t 66), (.t 71), (.t 75)]) <|
    .one none (.ap 77 5 1 (.t 57) (.t 76)) <|
    .one none (.tk 4 (.t 77)) <|
    .nil) <|
  .ret) <|
 .seq (.reg <|
   .one none (.tk 8 (.t 0)) <|
   .one none (.bs 9 5 1 [(.c (.int .u8 239)), (.c (.int .u8 191)), (.c (.int .u8 189))]) <|
   .one none (.ap 10 5 1 (.t 8) (.t 9)) <|
   .one none (.tk 4 (.t 10)) <|
   .nil) <|
 .ret⟩
theorem has263 : Has Tryz.prog [] 263 ir263 := has_of Tryz.func263 (by kernel_rfl)
end Gx

/- Part K2. -/
/- Go's library behind its contracts. -/
set_option linter.unusedSimpArgs false
set_option linter.unusedVariables false
namespace Gx
open Go Go.Proofs Go.RowKit
variable {G : Nat → Option Obj}

/-- The library's tables lie where they were laid. -/
class Laid (G : Nat → Option Obj) : Prop where
  utf : ∀ g w, GL G g w → Lib.Utf8Tabs 1 2 w
  pow : ∀ g w, GL G g w → Lib.TabIs Tryz.prog w "internal/strconv.uint64pow10" .u64 Lib.pow10Tab

theorem ent {f : FuncId} {fn : Func} (hf : Tryz.prog.funcs[f]? = some fn) (h : (fn.name == "runtime.NumGoroutine", fn.body.isSome) = (false, true)) (hlt : Nat.ble (f + 1) ynum = true := by rfl) : Enters Tryz.prog f :=
  ⟨Nat.le_of_ble_eq_true hlt, fn, hf, congrArg Prod.fst h, congrArg Prod.snd h⟩

theorem below_drewN (w : World) (n : Nat) : Below w.heap.size w (w.drewN n) := ⟨rfl, rfl, rfl, Nat.le_refl _, fun _ _ => rfl⟩
theorem below_grow (w : World) (n : Nat) (os : Array Obj) : Below w.heap.size w (Go.Sort.grow (w.drewN n) os) :=
  ⟨rfl, rfl, rfl, by simp [Go.Sort.grow], fun k hk => by simp [Go.Sort.grow, Array.getElem?_append, hk]⟩

theorem k64 (σ : St) (s : List UInt8) (c : UInt8) : ARet Tryz.prog G 64 [.str s, .int .u8 c.toNat] σ (.int .i64 (Lib.indexByte s c)) σ := by
  refine aret_strint (ent Tryz.func64 (by kernel_rfl)) fun g w s' hG hs hl => ?_
  refine (Tryz.strings_IndexByte s' _ w).mono ?_
  rintro e w' ⟨rfl, rfl⟩
  refine ⟨_, rfl, Below.refl _ _, ?_⟩
  have : ((c.toNat : Int).toNat.toUInt8) = c := by simp
  rw [hs, this]
  exact .int _ _
theorem k233 (σ : St) (s : List UInt8) (c : UInt8) : ARet Tryz.prog G 233 [.str s, .str [c]] σ (.int .i64 (Lib.indexByte s c)) σ := by
  refine aret_str2 (ent Tryz.func233 (by kernel_rfl)) fun g w s' t' hG hs hl ht hm => ?_
  have : t' = ⟨#[c]⟩ := by
    cases t' with
    | mk d => simp only at ht; congr; exact Array.toList_inj.1 (by simpa using ht)
  subst this
  refine (Tryz.stringslite_Index_one s' c w).mono ?_
  rintro e w' ⟨rfl, rfl⟩
  refine ⟨_, rfl, Below.refl _ _, ?_⟩
  rw [hs]
  exact .int _ _
theorem k221 (σ : St) (n : Int) : ARet Tryz.prog G 221 [.int .i32 n] σ (.bool (Lib.validRune n)) σ := by
  refine aret_int (ent Tryz.func221 (by kernel_rfl)) fun g w hG => ?_
  refine (Tryz.utf8_ValidRune n w).mono ?_
  rintro e w' ⟨rfl, rfl⟩
  exact ⟨_, rfl, Below.refl _ _, .bool _⟩
theorem k228 [Laid G] (σ : St) (n : Int) (h0 : -9223372036854775808 ≤ n) (h1 : n ≤ 9223372036854775807) : ARet Tryz.prog G 228 [.int .i64 n] σ (.str (Lib.itoa n)) σ := by
  refine aret_int (ent Tryz.func228 (by kernel_rfl)) fun g w hG => ?_
  refine (Tryz.strconv_Itoa n h0 h1 w (Laid.pow g w hG)).mono ?_
  rintro e w' ⟨rfl, k, os, rfl⟩
  exact ⟨_, rfl, below_grow _ _ _, .mkstr (by have := Lib.itoa_length_le n h0 h1; omega)⟩
/-- The sign that begins a text, and its bytes. -/
def dec (s : List UInt8) : Nat × Nat := Lib.decodeGo ⟨s.toArray⟩
theorem k145 [Laid G] (σ : St) (s : List UInt8) : ARet Tryz.prog G 145 [.str s] σ (.tup [.int .i32 (dec s).1, .int .i64 (dec s).2]) σ := by
  refine aret_str (ent Tryz.func145 (by kernel_rfl)) fun g w s' hG hs hl => ?_
  refine (Tryz.utf8_DecodeRuneInString s' w (Laid.utf g w hG)).mono ?_
  rintro e w' ⟨rfl, hB⟩
  have : s' = ⟨s.toArray⟩ := by cases s' with | mk d => simp only at hs; subst hs; simp
  subst this
  refine ⟨_, rfl, hB, .tup _ _ (by simp) fun i x v hx hv => ?_⟩
  match i with
  | 0 => simp at hx hv; subst hx hv; exact .int _ _
  | 1 => simp at hx hv; subst hx hv; exact .int _ _
  | n + 2 => simp at hx
theorem dec_le (s : List UInt8) : (dec s).1 ≤ 1114111 := by
  unfold dec Lib.decodeGo
  split
  · simp
  · exact Lib.rune_le _ _
theorem dec_nil : dec [] = (65533, 0) := rfl
theorem dec_pos {s : List UInt8} (h : s ≠ []) : 1 ≤ (dec s).2 ∧ (dec s).2 ≤ s.length := by
  have hs : (⟨s.toArray⟩ : ByteArray).size = s.length := by simp [ByteArray.size]
  have hl : 0 < s.length := List.length_pos_iff.2 h
  unfold dec Lib.decodeGo
  rw [if_neg (by rw [hs]; omega)]
  exact ⟨Lib.width_pos _ _, by have := Lib.width_le ⟨s.toArray⟩ (by rw [hs]; exact hl); rwa [hs] at this⟩
end Gx

/- Part K3. -/
/- Layer 1: signs. -/
set_option linter.unusedSimpArgs false
set_option linter.unusedVariables false
namespace Gx
open Go Go.Proofs Go.RowKit
variable {G : Nat → Option Obj}

/-- utf.First: the sign, -1 for none, and its bytes. -/
def first (s : List UInt8) : Int × Nat := if (dec s).1 = 65533 ∧ (dec s).2 < 3 then (-1, (dec s).2) else ((dec s).1, (dec s).2)
def printable (n : Int) : Bool :=
  if n < 32 then n == 9 || n == 10 || n == 13
  else if n < 127 then true
  else if n < 160 then n == 133
  else if n < 55296 then true
  else if n < 65536 then decide (57344 ≤ n) && decide (n ≤ 65533) && n != 65279
  else decide (n ≤ 1114111)
/-- A fault: why, and where. -/
def flt (why at_ : Int) : Pv := .agg [.int .i64 why, .int .i64 at_]

theorem k165 [Laid G] (σ : St) (s : List UInt8) : ARet Tryz.prog G 165 [.str s] σ (.tup [.int .i64 (first s).1, .int .i64 (first s).2]) σ := by
  refine ret_of has165 (Nat.le_of_ble_eq_true rfl) ?_
  simp only [ir165]
  have hw : IntKind.i64.wrap ((dec s).1 : Int) = (dec s).1 := by have := dec_le s; exact wrap64 (by omega)
  unfold first
  repeat' (first | simp (maxSteps := 1000000) (disch := omega) only [rb0, rb1, rb2, rb3, rb4, rb5, Od.ev, Ao.dst, Nat.reduceEqDiff, ↓reduceIte, reduceIte, reduceCtorEq, Nat.reduceAdd, Nat.reduceLeDiff, Nat.reduceSub, Int.reduceToNat, byt, Nat.reduceBEq] | with_reducible refine lw_of (fun _ => ?_) | with_reducible exact True.intro | with_reducible refine fin_same ?_ | with_reducible refine fin_loc ?_ ?_ ?_ | with_reducible exact Loc.refl _ | with_reducible refine Loc.push ?_ _ _ | with_reducible refine Loc.set ?_ _ _ (by first | omega | (simp only [push_n, set_n]; omega)) | with_reducible refine And.intro (by omega) ?_ | with_reducible refine cw_of (k145 _ _) ?_)
  by_cases h : (dec s).1 = 65533
  · by_cases h' : (dec s).2 < 3
    · repeat' (first | simp (maxSteps := 1000000) (disch := omega) only [rb0, rb1, rb2, rb3, rb4, rb5, Od.ev, Ao.dst, Nat.reduceEqDiff, ↓reduceIte, reduceIte, reduceCtorEq, Nat.reduceAdd, Nat.reduceLeDiff, Nat.reduceSub, Int.reduceToNat, byt, Nat.reduceBEq, h, h'] | with_reducible refine lw_of (fun _ => ?_) | with_reducible exact True.intro | with_reducible refine fin_same ?_ | with_reducible refine fin_loc ?_ ?_ ?_ | with_reducible exact Loc.refl _ | with_reducible refine Loc.push ?_ _ _ | with_reducible refine Loc.set ?_ _ _ (by first | omega | (simp only [push_n, set_n]; omega)) | with_reducible refine And.intro (by omega) ?_)
    · repeat' (first | simp (maxSteps := 1000000) (disch := omega) only [rb0, rb1, rb2, rb3, rb4, rb5, Od.ev, Ao.dst, Nat.reduceEqDiff, ↓reduceIte, reduceIte, reduceCtorEq, Nat.reduceAdd, Nat.reduceLeDiff, Nat.reduceSub, Int.reduceToNat, byt, Nat.reduceBEq, h, h', hw] | with_reducible refine lw_of (fun _ => ?_) | with_reducible exact True.intro | with_reducible refine fin_same ?_ | with_reducible refine fin_loc ?_ ?_ ?_ | with_reducible exact Loc.refl _ | with_reducible refine Loc.push ?_ _ _ | with_reducible refine Loc.set ?_ _ _ (by first | omega | (simp only [push_n, set_n]; omega)) | with_reducible refine And.intro (by omega) ?_)
  · have : ¬ ((dec s).1 : Int) = 65533 := by omega
    repeat' (first | simp (maxSteps := 1000000) (disch := omega) only [rb0, rb1, rb2, rb3, rb4, rb5, Od.ev, Ao.dst, Nat.reduceEqDiff, ↓reduceIte, reduceIte, reduceCtorEq, Nat.reduceAdd, Nat.reduceLeDiff, Nat.reduceSub, Int.reduceToNat, byt, Nat.reduceBEq, h, hw, this] | with_reducible refine lw_of (fun _ => ?_) | with_reducible exact True.intro | with_reducible refine fin_same ?_ | with_reducible refine fin_loc ?_ ?_ ?_ | with_reducible exact Loc.refl _ | with_reducible refine Loc.push ?_ _ _ | with_reducible refine Loc.set ?_ _ _ (by first | omega | (simp only [push_n, set_n]; omega)) | with_reducible refine And.intro (by omega) ?_)
theorem k113 (σ : St) (n : Int) : ARet Tryz.prog G 113 [.int .i64 n] σ (.bool (printable n)) σ := by
  refine ret_of has113 (Nat.le_of_ble_eq_true rfl) ?_
  simp only [ir113, printable]
  by_cases h1 : n < 32
  · by_cases h2 : n = 9
    · repeat' (first | simp (maxSteps := 1000000) (disch := omega) only [rb0, rb1, rb2, rb3, rb4, rb5, Od.ev, Ao.dst, Nat.reduceEqDiff, ↓reduceIte, reduceIte, reduceCtorEq, Nat.reduceAdd, Nat.reduceLeDiff, Nat.reduceSub, Int.reduceToNat, byt, Nat.reduceBEq, h2] | with_reducible refine lw_of (fun _ => ?_) | with_reducible exact True.intro | with_reducible refine fin_same ?_ | with_reducible refine fin_loc ?_ ?_ ?_ | with_reducible exact Loc.refl _ | with_reducible refine Loc.push ?_ _ _ | with_reducible refine Loc.set ?_ _ _ (by first | omega | (simp only [push_n, set_n]; omega)) | with_reducible refine And.intro (by omega) ?_)
      rfl
    · by_cases h3 : n = 10
      · repeat' (first | simp (maxSteps := 1000000) (disch := omega) only [rb0, rb1, rb2, rb3, rb4, rb5, Od.ev, Ao.dst, Nat.reduceEqDiff, ↓reduceIte, reduceIte, reduceCtorEq, Nat.reduceAdd, Nat.reduceLeDiff, Nat.reduceSub, Int.reduceToNat, byt, Nat.reduceBEq, h3] | with_reducible refine lw_of (fun _ => ?_) | with_reducible exact True.intro | with_reducible refine fin_same ?_ | with_reducible refine fin_loc ?_ ?_ ?_ | with_reducible exact Loc.refl _ | with_reducible refine Loc.push ?_ _ _ | with_reducible refine Loc.set ?_ _ _ (by first | omega | (simp only [push_n, set_n]; omega)) | with_reducible refine And.intro (by omega) ?_)
        rfl
      · repeat' (first | simp (maxSteps := 1000000) (disch := omega) only [rb0, rb1, rb2, rb3, rb4, rb5, Od.ev, Ao.dst, Nat.reduceEqDiff, ↓reduceIte, reduceIte, reduceCtorEq, Nat.reduceAdd, Nat.reduceLeDiff, Nat.reduceSub, Int.reduceToNat, byt, Nat.reduceBEq, h1] | with_reducible refine lw_of (fun _ => ?_) | with_reducible exact True.intro | with_reducible refine fin_same ?_ | with_reducible refine fin_loc ?_ ?_ ?_ | with_reducible exact Loc.refl _ | with_reducible refine Loc.push ?_ _ _ | with_reducible refine Loc.set ?_ _ _ (by first | omega | (simp only [push_n, set_n]; omega)) | with_reducible refine And.intro (by omega) ?_)
        simp only [beq_eq_false_iff_ne.2 h2, beq_eq_false_iff_ne.2 h3, Bool.false_or]
        by_cases h4 : n = 13 <;> simp [h4]
  · by_cases h2 : n < 127
    · repeat' (first | simp (maxSteps := 1000000) (disch := omega) only [rb0, rb1, rb2, rb3, rb4, rb5, Od.ev, Ao.dst, Nat.reduceEqDiff, ↓reduceIte, reduceIte, reduceCtorEq, Nat.reduceAdd, Nat.reduceLeDiff, Nat.reduceSub, Int.reduceToNat, byt, Nat.reduceBEq, h1, h2] | with_reducible refine lw_of (fun _ => ?_) | with_reducible exact True.intro | with_reducible refine fin_same ?_ | with_reducible refine fin_loc ?_ ?_ ?_ | with_reducible exact Loc.refl _ | with_reducible refine Loc.push ?_ _ _ | with_reducible refine Loc.set ?_ _ _ (by first | omega | (simp only [push_n, set_n]; omega)) | with_reducible refine And.intro (by omega) ?_)
    · by_cases h3 : n < 160
      · repeat' (first | simp (maxSteps := 1000000) (disch := omega) only [rb0, rb1, rb2, rb3, rb4, rb5, Od.ev, Ao.dst, Nat.reduceEqDiff, ↓reduceIte, reduceIte, reduceCtorEq, Nat.reduceAdd, Nat.reduceLeDiff, Nat.reduceSub, Int.reduceToNat, byt, Nat.reduceBEq, h1, h2, h3] | with_reducible refine lw_of (fun _ => ?_) | with_reducible exact True.intro | with_reducible refine fin_same ?_ | with_reducible refine fin_loc ?_ ?_ ?_ | with_reducible exact Loc.refl _ | with_reducible refine Loc.push ?_ _ _ | with_reducible refine Loc.set ?_ _ _ (by first | omega | (simp only [push_n, set_n]; omega)) | with_reducible refine And.intro (by omega) ?_)
        by_cases h4 : n = 133 <;> simp [h4]
      · by_cases h4 : n < 55296
        · repeat' (first | simp (maxSteps := 1000000) (disch := omega) only [rb0, rb1, rb2, rb3, rb4, rb5, Od.ev, Ao.dst, Nat.reduceEqDiff, ↓reduceIte, reduceIte, reduceCtorEq, Nat.reduceAdd, Nat.reduceLeDiff, Nat.reduceSub, Int.reduceToNat, byt, Nat.reduceBEq, h1, h2, h3, h4] | with_reducible refine lw_of (fun _ => ?_) | with_reducible exact True.intro | with_reducible refine fin_same ?_ | with_reducible refine fin_loc ?_ ?_ ?_ | with_reducible exact Loc.refl _ | with_reducible refine Loc.push ?_ _ _ | with_reducible refine Loc.set ?_ _ _ (by first | omega | (simp only [push_n, set_n]; omega)) | with_reducible refine And.intro (by omega) ?_)
        · by_cases h5 : n < 65536
          · by_cases h6 : n ≥ 57344
            · by_cases h7 : n ≤ 65533
              · repeat' (first | simp (maxSteps := 1000000) (disch := omega) only [rb0, rb1, rb2, rb3, rb4, rb5, Od.ev, Ao.dst, Nat.reduceEqDiff, ↓reduceIte, reduceIte, reduceCtorEq, Nat.reduceAdd, Nat.reduceLeDiff, Nat.reduceSub, Int.reduceToNat, byt, Nat.reduceBEq] | with_reducible refine lw_of (fun _ => ?_) | with_reducible exact True.intro | with_reducible refine fin_same ?_ | with_reducible refine fin_loc ?_ ?_ ?_ | with_reducible exact Loc.refl _ | with_reducible refine Loc.push ?_ _ _ | with_reducible refine Loc.set ?_ _ _ (by first | omega | (simp only [push_n, set_n]; omega)) | with_reducible refine And.intro (by omega) ?_)
                try (by_cases h8 : n = 65279 <;> simp [h8])
              · repeat' (first | simp (maxSteps := 1000000) (disch := omega) only [rb0, rb1, rb2, rb3, rb4, rb5, Od.ev, Ao.dst, Nat.reduceEqDiff, ↓reduceIte, reduceIte, reduceCtorEq, Nat.reduceAdd, Nat.reduceLeDiff, Nat.reduceSub, Int.reduceToNat, byt, Nat.reduceBEq] | with_reducible refine lw_of (fun _ => ?_) | with_reducible exact True.intro | with_reducible refine fin_same ?_ | with_reducible refine fin_loc ?_ ?_ ?_ | with_reducible exact Loc.refl _ | with_reducible refine Loc.push ?_ _ _ | with_reducible refine Loc.set ?_ _ _ (by first | omega | (simp only [push_n, set_n]; omega)) | with_reducible refine And.intro (by omega) ?_)
            · repeat' (first | simp (maxSteps := 1000000) (disch := omega) only [rb0, rb1, rb2, rb3, rb4, rb5, Od.ev, Ao.dst, Nat.reduceEqDiff, ↓reduceIte, reduceIte, reduceCtorEq, Nat.reduceAdd, Nat.reduceLeDiff, Nat.reduceSub, Int.reduceToNat, byt, Nat.reduceBEq] | with_reducible refine lw_of (fun _ => ?_) | with_reducible exact True.intro | with_reducible refine fin_same ?_ | with_reducible refine fin_loc ?_ ?_ ?_ | with_reducible exact Loc.refl _ | with_reducible refine Loc.push ?_ _ _ | with_reducible refine Loc.set ?_ _ _ (by first | omega | (simp only [push_n, set_n]; omega)) | with_reducible refine And.intro (by omega) ?_)
          · repeat' (first | simp (maxSteps := 1000000) (disch := omega) only [rb0, rb1, rb2, rb3, rb4, rb5, Od.ev, Ao.dst, Nat.reduceEqDiff, ↓reduceIte, reduceIte, reduceCtorEq, Nat.reduceAdd, Nat.reduceLeDiff, Nat.reduceSub, Int.reduceToNat, byt, Nat.reduceBEq] | with_reducible refine lw_of (fun _ => ?_) | with_reducible exact True.intro | with_reducible refine fin_same ?_ | with_reducible refine fin_loc ?_ ?_ ?_ | with_reducible exact Loc.refl _ | with_reducible refine Loc.push ?_ _ _ | with_reducible refine Loc.set ?_ _ _ (by first | omega | (simp only [push_n, set_n]; omega)) | with_reducible refine And.intro (by omega) ?_)
theorem k111 (σ : St) (s : List UInt8) (n : Int) : ARet Tryz.prog G 111 [.str s, .int .i64 n] σ (if n < s.length then flt 8 n else flt 0 0) σ := by
  refine ret_of has111 (Nat.le_of_ble_eq_true rfl) ?_
  simp only [ir111, flt]
  repeat' (first | simp (maxSteps := 1000000) (disch := omega) only [rb0, rb1, rb2, rb3, rb4, rb5, Od.ev, Ao.dst, Nat.reduceEqDiff, ↓reduceIte, reduceIte, reduceCtorEq, Nat.reduceAdd, Nat.reduceLeDiff, Nat.reduceSub, Int.reduceToNat, byt, Nat.reduceBEq] | with_reducible refine lw_of (fun _ => ?_) | with_reducible exact True.intro | with_reducible refine fin_same ?_ | with_reducible refine fin_loc ?_ ?_ ?_ | with_reducible exact Loc.refl _ | with_reducible refine Loc.push ?_ _ _ | with_reducible refine Loc.set ?_ _ _ (by first | omega | (simp only [push_n, set_n]; omega)) | with_reducible refine And.intro (by omega) ?_)
  refine bw_dec (fun h => ?_) (fun h => ?_)
  · repeat' (first | simp (maxSteps := 1000000) (disch := omega) only [rb0, rb1, rb2, rb3, rb4, rb5, Od.ev, Ao.dst, Nat.reduceEqDiff, ↓reduceIte, reduceIte, reduceCtorEq, Nat.reduceAdd, Nat.reduceLeDiff, Nat.reduceSub, Int.reduceToNat, byt, Nat.reduceBEq, h] | with_reducible refine lw_of (fun _ => ?_) | with_reducible exact True.intro | with_reducible refine fin_same ?_ | with_reducible refine fin_loc ?_ ?_ ?_ | with_reducible exact Loc.refl _ | with_reducible refine Loc.push ?_ _ _ | with_reducible refine Loc.set ?_ _ _ (by first | omega | (simp only [push_n, set_n]; omega)) | with_reducible refine And.intro (by omega) ?_)
  · repeat' (first | simp (maxSteps := 1000000) (disch := omega) only [rb0, rb1, rb2, rb3, rb4, rb5, Od.ev, Ao.dst, Nat.reduceEqDiff, ↓reduceIte, reduceIte, reduceCtorEq, Nat.reduceAdd, Nat.reduceLeDiff, Nat.reduceSub, Int.reduceToNat, byt, Nat.reduceBEq, h] | with_reducible refine lw_of (fun _ => ?_) | with_reducible exact True.intro | with_reducible refine fin_same ?_ | with_reducible refine fin_loc ?_ ?_ ?_ | with_reducible exact Loc.refl _ | with_reducible refine Loc.push ?_ _ _ | with_reducible refine Loc.set ?_ _ _ (by first | omega | (simp only [push_n, set_n]; omega)) | with_reducible refine And.intro (by omega) ?_)
theorem first_pos {s : List UInt8} (h : s ≠ []) : 1 ≤ (first s).2 ∧ (first s).2 ≤ s.length := by
  unfold first
  split <;> exact dec_pos h
/-- utf.walk: how far one comes. -/
def walk (p : Int → Bool) (s : List UInt8) : Nat :=
  if h : s = [] then 0
  else if p (first s).1 then (first s).2 + walk p (s.drop (first s).2) else 0
termination_by s.length
decreasing_by
  have := first_pos h
  have := List.length_pos_iff.2 h
  simp only [List.length_drop]; omega
theorem walk_nil (p : Int → Bool) : walk p [] = 0 := by rw [walk]; simp
theorem walk_cons (p : Int → Bool) {s : List UInt8} (h : s ≠ []) : walk p s = if p (first s).1 then (first s).2 + walk p (s.drop (first s).2) else 0 := by
  conv => lhs; rw [walk]
  simp [h]
theorem k112 [Laid G] (σ : St) (s : List UInt8) (f : Nat) (a b : List Pv) (p : Int → Bool) (hp : ∀ n, ARet Tryz.prog G f (a ++ [.int .i64 n] ++ b) σ (.bool (p n)) σ) : ARet Tryz.prog G 112 [.str s, .clo f a b] σ (.int .i64 (walk p s)) σ := by
  refine ret_of has112 (Nat.le_of_ble_eq_true rfl) ?_
  simp only [ir112]
  repeat' (first | simp (maxSteps := 1000000) (disch := omega) only [rb0, rb1, rb2, rb3, rb4, rb5, Od.ev, Ao.dst, Nat.reduceEqDiff, ↓reduceIte, reduceIte, reduceCtorEq, Nat.reduceAdd, Nat.reduceLeDiff, Nat.reduceSub, Int.reduceToNat, byt, Nat.reduceBEq] | with_reducible refine lw_of (fun _ => ?_) | with_reducible exact True.intro | with_reducible refine fin_same ?_ | with_reducible refine fin_loc ?_ ?_ ?_ | with_reducible exact Loc.refl _ | with_reducible refine Loc.push ?_ _ _ | with_reducible refine Loc.set ?_ _ _ (by first | omega | (simp only [push_n, set_n]; omega)) | with_reducible refine And.intro (by omega) ?_)
  refine loop_rule (fun n ρ σ' => σ' = σ ∧ ∃ at_ : Nat, n = s.length - at_ ∧ at_ ≤ s.length ∧ ρ 0 = .str s ∧ ρ 1 = .clo f a b ∧ ρ 5 = .int .i64 at_ ∧ at_ + walk p (s.drop at_) = walk p s) (fun n ρ σ' hI => ?_) ⟨rfl, 0, rfl, by omega, rfl, rfl, rfl, by simp⟩
  obtain ⟨rfl, at_, rfl, hle, h0, h1, h5, hw⟩ := hI
  by_cases hlt : at_ < s.length
  · have hne : s.drop at_ ≠ [] := by
      intro h; have := congrArg List.length h; simp at this; omega
    have hf := first_pos hne
    rw [List.length_drop] at hf
    rw [walk_cons p hne] at hw
    repeat' (first | simp (maxSteps := 1000000) (disch := omega) only [rb0, rb1, rb2, rb3, rb4, rb5, Od.ev, Ao.dst, Nat.reduceEqDiff, ↓reduceIte, reduceIte, reduceCtorEq, Nat.reduceAdd, Nat.reduceLeDiff, Nat.reduceSub, Int.reduceToNat, byt, Nat.reduceBEq, h0, h1, h5] | with_reducible refine lw_of (fun _ => ?_) | with_reducible exact True.intro | with_reducible refine fin_same ?_ | with_reducible refine fin_loc ?_ ?_ ?_ | with_reducible exact Loc.refl _ | with_reducible refine Loc.push ?_ _ _ | with_reducible refine Loc.set ?_ _ _ (by first | omega | (simp only [push_n, set_n]; omega)) | with_reducible refine And.intro (by omega) ?_ | with_reducible refine cw_of (hp _) ?_ | with_reducible refine cw_of (k165 _ _) ?_)
    refine bw_split (fun h => ?_) (fun h => ?_)
    · have h' : p (first (List.drop at_ s)).1 = false := by simpa using h
      rw [h'] at hw
      repeat' (first | simp (maxSteps := 1000000) (disch := omega) only [rb0, rb1, rb2, rb3, rb4, rb5, Od.ev, Ao.dst, Nat.reduceEqDiff, ↓reduceIte, reduceIte, reduceCtorEq, Nat.reduceAdd, Nat.reduceLeDiff, Nat.reduceSub, Int.reduceToNat, byt, Nat.reduceBEq, h', h5] | with_reducible refine lw_of (fun _ => ?_) | with_reducible exact True.intro | with_reducible refine fin_same ?_ | with_reducible refine fin_loc ?_ ?_ ?_ | with_reducible exact Loc.refl _ | with_reducible refine Loc.push ?_ _ _ | with_reducible refine Loc.set ?_ _ _ (by first | omega | (simp only [push_n, set_n]; omega)) | with_reducible refine And.intro (by omega) ?_)
      simp only [Bool.false_eq_true, if_false] at hw; omega
    · have h' : p (first (List.drop at_ s)).1 = true := by simpa using h
      rw [if_pos h', List.drop_drop] at hw
      repeat' (first | simp (maxSteps := 1000000) (disch := omega) only [rb0, rb1, rb2, rb3, rb4, rb5, Od.ev, Ao.dst, Nat.reduceEqDiff, ↓reduceIte, reduceIte, reduceCtorEq, Nat.reduceAdd, Nat.reduceLeDiff, Nat.reduceSub, Int.reduceToNat, byt, Nat.reduceBEq, h', h5, h0, h1] | with_reducible refine lw_of (fun _ => ?_) | with_reducible exact True.intro | with_reducible refine fin_same ?_ | with_reducible refine fin_loc ?_ ?_ ?_ | with_reducible exact Loc.refl _ | with_reducible refine Loc.push ?_ _ _ | with_reducible refine Loc.set ?_ _ _ (by first | omega | (simp only [push_n, set_n]; omega)) | with_reducible refine And.intro (by omega) ?_)
      exact ⟨_, by omega, at_ + (first (List.drop at_ s)).2, rfl, by omega, by simp, by omega⟩
  · repeat' (first | simp (maxSteps := 1000000) (disch := omega) only [rb0, rb1, rb2, rb3, rb4, rb5, Od.ev, Ao.dst, Nat.reduceEqDiff, ↓reduceIte, reduceIte, reduceCtorEq, Nat.reduceAdd, Nat.reduceLeDiff, Nat.reduceSub, Int.reduceToNat, byt, Nat.reduceBEq, h0, h1, h5] | with_reducible refine lw_of (fun _ => ?_) | with_reducible exact True.intro | with_reducible refine fin_same ?_ | with_reducible refine fin_loc ?_ ?_ ?_ | with_reducible exact Loc.refl _ | with_reducible refine Loc.push ?_ _ _ | with_reducible refine Loc.set ?_ _ _ (by first | omega | (simp only [push_n, set_n]; omega)) | with_reducible refine And.intro (by omega) ?_)
    rw [List.drop_eq_nil_of_le (by omega), walk_nil] at hw; omega
end Gx

/- Part K4. -/
/- Rows. -/
set_option linter.unusedSimpArgs false
set_option linter.unusedVariables false
namespace Gx
open Go Go.Proofs Go.RowKit
variable {G : Nat → Option Obj}

/-- A row of a text. -/
structure Row where
  col : Int
  text : List UInt8
  at_ : Int
  deriving DecidableEq
def Row.pv (r : Row) : Pv := .agg [.int .i64 r.col, .str r.text, .int .i64 r.at_]
def rowsPv (l : List Row) : List Pv := l.map Row.pv
theorem rows_len (l : List Row) : (∀ x ∈ rowsPv l, x.cells.length = 3) = True := by
  simp only [eq_iff_iff, iff_true]
  intro x hx
  obtain ⟨r, _, rfl⟩ := List.mem_map.1 hx
  rfl
theorem rows_size (l : List Row) : (rowsPv l).length = l.length := by simp [rowsPv]
theorem rows_at (l : List Row) (i : Nat) : (rowsPv l)[i]? = (l[i]?).map Row.pv := by simp [rowsPv]
theorem rows_drop (l : List Row) (i : Nat) : (rowsPv l).drop i = rowsPv (l.drop i) := by simp [rowsPv]
theorem rows_take (l : List Row) (i : Nat) : (rowsPv l).take i = rowsPv (l.take i) := by simp [rowsPv]
theorem row_cells (r : Row) : r.pv.cells = [.int .i64 r.col, .str r.text, .int .i64 r.at_] := rfl

/-- The first place of a row that is asked for; -1: none. -/
def idx (p : Row → Bool) (l : List Row) : Int := match l.findIdx? p with
  | some i => i
  | none => -1
theorem idx_at {p : Row → Bool} {l : List Row} {k : Nat} {r : Row} (h0 : ∀ (j : Nat) (x : Row), j < k → l[j]? = some x → p x = false) (h1 : l[k]? = some r) (h2 : p r = true) : idx p l = k := by
  have : l.findIdx? p = some k := by
    rw [List.findIdx?_eq_some_iff_getElem]
    obtain ⟨hk, rfl⟩ := List.getElem?_eq_some_iff.1 h1
    exact ⟨hk, h2, fun j hj => by simpa using h0 j _ hj (List.getElem?_eq_getElem (by omega))⟩
  simp [idx, this]
theorem idx_none {p : Row → Bool} {l : List Row} (h0 : ∀ (j : Nat) (x : Row), l[j]? = some x → p x = false) : idx p l = -1 := by
  have : l.findIdx? p = none := by
    rw [List.findIdx?_eq_none_iff]
    intro x hx
    obtain ⟨j, hj⟩ := List.mem_iff_getElem?.1 hx
    exact h0 j x hj
  simp [idx, this]

theorem k69 (σ : St) (l : List Row) (f : Nat) (a b : List Pv) (p : Row → Bool) (hp : ∀ r : Row, ARet Tryz.prog G f (a ++ [r.pv] ++ b) σ (.bool (p r)) σ) : ARet Tryz.prog G 69 [.sl false (rowsPv l), .clo f a b] σ (.int .i64 (idx p l)) σ := by
  refine ret_of has69 (Nat.le_of_ble_eq_true rfl) ?_
  simp only [ir69]
  repeat' (first | simp (maxSteps := 1000000) (disch := omega) only [rb0, rb1, rb2, rb3, rb4, rb5, Od.ev, Ao.dst, Nat.reduceEqDiff, ↓reduceIte, reduceIte, reduceCtorEq, Nat.reduceAdd, Nat.reduceLeDiff, Nat.reduceSub, Int.reduceToNat, byt, Nat.reduceBEq, rows_size] | with_reducible refine lw_of (fun _ => ?_) | with_reducible exact True.intro | with_reducible refine fin_same ?_ | with_reducible refine fin_loc ?_ ?_ ?_ | with_reducible exact Loc.refl _ | with_reducible refine Loc.push ?_ _ _ | with_reducible refine Loc.set ?_ _ _ (by first | omega | (simp only [push_n, set_n]; omega)) | with_reducible refine And.intro (by omega) ?_)
  rename_i hlen
  refine loop_rule (fun n ρ σ' => σ' = σ ∧ ∃ k : Nat, n = l.length - k ∧ k ≤ l.length ∧ ρ 0 = .sl false (rowsPv l) ∧ ρ 1 = .clo f a b ∧ ρ 7 = .int .i64 l.length ∧ ρ 8 = .int .i64 k ∧ ∀ j x, j < k → l[j]? = some x → p x = false) (fun n ρ σ' hI => ?_) ⟨rfl, 0, rfl, by omega, rfl, rfl, rfl, rfl, fun j x h => by omega⟩
  obtain ⟨rfl, k, rfl, hle, h0, h1, h7, h8, hn⟩ := hI
  by_cases hlt : k < l.length
  · have hk : l[k]? = some l[k] := List.getElem?_eq_getElem hlt
    have hag : ∀ r : Row, lds σ' (some 3) (.rptr [.int .i64 r.col, .str r.text, .int .i64 r.at_] 0) = some r.pv := fun r => rfl
    repeat' (first | simp (maxSteps := 1000000) (disch := omega) only [rb0, rb1, rb2, rb3, rb4, rb5, Od.ev, Ao.dst, Nat.reduceEqDiff, ↓reduceIte, reduceIte, reduceCtorEq, Nat.reduceAdd, Nat.reduceLeDiff, Nat.reduceSub, Int.reduceToNat, byt, Nat.reduceBEq, h0, h1, h7, h8, rows_at, hk, row_cells] | with_reducible refine lw_of (fun _ => ?_) | with_reducible exact True.intro | with_reducible refine fin_same ?_ | with_reducible refine fin_loc ?_ ?_ ?_ | with_reducible exact Loc.refl _ | with_reducible refine Loc.push ?_ _ _ | with_reducible refine Loc.set ?_ _ _ (by first | omega | (simp only [push_n, set_n]; omega)) | with_reducible refine And.intro (by omega) ?_)
    have := hp l[k]
    simp only [Row.pv] at this
    refine cw_of this ?_
    repeat' (first | simp (maxSteps := 1000000) (disch := omega) only [rb0, rb1, rb2, rb3, rb4, rb5, Od.ev, Ao.dst, Nat.reduceEqDiff, ↓reduceIte, reduceIte, reduceCtorEq, Nat.reduceAdd, Nat.reduceLeDiff, Nat.reduceSub, Int.reduceToNat, byt, Nat.reduceBEq, h0, h1, h7, h8] | with_reducible refine lw_of (fun _ => ?_) | with_reducible exact True.intro | with_reducible refine fin_same ?_ | with_reducible refine fin_loc ?_ ?_ ?_ | with_reducible exact Loc.refl _ | with_reducible refine Loc.push ?_ _ _ | with_reducible refine Loc.set ?_ _ _ (by first | omega | (simp only [push_n, set_n]; omega)) | with_reducible refine And.intro (by omega) ?_)
    refine bw_split (fun h => ?_) (fun h => ?_)
    · repeat' (first | simp (maxSteps := 1000000) (disch := omega) only [rb0, rb1, rb2, rb3, rb4, rb5, Od.ev, Ao.dst, Nat.reduceEqDiff, ↓reduceIte, reduceIte, reduceCtorEq, Nat.reduceAdd, Nat.reduceLeDiff, Nat.reduceSub, Int.reduceToNat, byt, Nat.reduceBEq, h0, h1, h7, h8] | with_reducible refine lw_of (fun _ => ?_) | with_reducible exact True.intro | with_reducible refine fin_same ?_ | with_reducible refine fin_loc ?_ ?_ ?_ | with_reducible exact Loc.refl _ | with_reducible refine Loc.push ?_ _ _ | with_reducible refine Loc.set ?_ _ _ (by first | omega | (simp only [push_n, set_n]; omega)) | with_reducible refine And.intro (by omega) ?_)
      exact (idx_at hn hk h).symm
    · repeat' (first | simp (maxSteps := 1000000) (disch := omega) only [rb0, rb1, rb2, rb3, rb4, rb5, Od.ev, Ao.dst, Nat.reduceEqDiff, ↓reduceIte, reduceIte, reduceCtorEq, Nat.reduceAdd, Nat.reduceLeDiff, Nat.reduceSub, Int.reduceToNat, byt, Nat.reduceBEq, h0, h1, h7, h8] | with_reducible refine lw_of (fun _ => ?_) | with_reducible exact True.intro | with_reducible refine fin_same ?_ | with_reducible refine fin_loc ?_ ?_ ?_ | with_reducible exact Loc.refl _ | with_reducible refine Loc.push ?_ _ _ | with_reducible refine Loc.set ?_ _ _ (by first | omega | (simp only [push_n, set_n]; omega)) | with_reducible refine And.intro (by omega) ?_)
      refine ⟨_, by omega, k + 1, rfl, by omega, by omega, fun j x hj hx => ?_⟩
      by_cases hjk : j = k
      · subst hjk; rw [hk] at hx; cases hx; exact h
      · exact hn j x (by omega) hx
  · repeat' (first | simp (maxSteps := 1000000) (disch := omega) only [rb0, rb1, rb2, rb3, rb4, rb5, Od.ev, Ao.dst, Nat.reduceEqDiff, ↓reduceIte, reduceIte, reduceCtorEq, Nat.reduceAdd, Nat.reduceLeDiff, Nat.reduceSub, Int.reduceToNat, byt, Nat.reduceBEq, h0, h1, h7, h8] | with_reducible refine lw_of (fun _ => ?_) | with_reducible exact True.intro | with_reducible refine fin_same ?_ | with_reducible refine fin_loc ?_ ?_ ?_ | with_reducible exact Loc.refl _ | with_reducible refine Loc.push ?_ _ _ | with_reducible refine Loc.set ?_ _ _ (by first | omega | (simp only [push_n, set_n]; omega)) | with_reducible refine And.intro (by omega) ?_)
    refine (idx_none fun j x hx => hn j x ?_ hx).symm
    have := (List.getElem?_eq_some_iff.1 hx).1; omega
/-- tree.isEmpty, rows.isEmpty, grommetref02.Empty. -/
def Row.empty (r : Row) : Bool := match r.text with
  | [] => true
  | c :: _ => c == 35
theorem k80 (σ : St) (r : Row) : ARet Tryz.prog G 80 [r.pv] σ (.bool r.empty) σ := by
  refine ret_of has80 (Nat.le_of_ble_eq_true rfl) ?_
  simp only [ir80, Row.pv, Row.empty]
  cases ht : r.text with
  | nil =>
    repeat' (first | simp (maxSteps := 1000000) (disch := omega) only [rb0, rb1, rb2, rb3, rb4, rb5, Od.ev, Ao.dst, Nat.reduceEqDiff, ↓reduceIte, reduceIte, reduceCtorEq, Nat.reduceAdd, Nat.reduceLeDiff, Nat.reduceSub, Int.reduceToNat, byt, Nat.reduceBEq, ht] | with_reducible refine lw_of (fun _ => ?_) | with_reducible exact True.intro | with_reducible refine fin_same ?_ | with_reducible refine fin_loc ?_ ?_ ?_ | with_reducible exact Loc.refl _ | with_reducible refine Loc.push ?_ _ _ | with_reducible refine Loc.set ?_ _ _ (by first | omega | (simp only [push_n, set_n]; omega)) | with_reducible refine And.intro (by omega) ?_)
  | cons c t =>
    repeat' (first | simp (maxSteps := 1000000) (disch := omega) only [rb0, rb1, rb2, rb3, rb4, rb5, Od.ev, Ao.dst, Nat.reduceEqDiff, ↓reduceIte, reduceIte, reduceCtorEq, Nat.reduceAdd, Nat.reduceLeDiff, Nat.reduceSub, Int.reduceToNat, byt, Nat.reduceBEq, ht] | with_reducible refine lw_of (fun _ => ?_) | with_reducible exact True.intro | with_reducible refine fin_same ?_ | with_reducible refine fin_loc ?_ ?_ ?_ | with_reducible exact Loc.refl _ | with_reducible refine Loc.push ?_ _ _ | with_reducible refine Loc.set ?_ _ _ (by first | omega | (simp only [push_n, set_n]; omega)) | with_reducible refine And.intro (by omega) ?_)
    have := u8eq c 35
    by_cases h : c = 35
    · subst h; rfl
    · have h' : ¬ (c.toNat : Int) = 35 := fun e => h (by have := (u8eq c 35).mp e; exact this)
      simp [h, h']
theorem k125 (σ : St) (r : Row) : ARet Tryz.prog G 125 [r.pv] σ (.bool (!r.empty)) σ := by
  refine ret_of has125 (Nat.le_of_ble_eq_true rfl) ?_
  simp only [ir125, Row.pv]
  repeat' (first | simp (maxSteps := 1000000) (disch := omega) only [rb0, rb1, rb2, rb3, rb4, rb5, Od.ev, Ao.dst, Nat.reduceEqDiff, ↓reduceIte, reduceIte, reduceCtorEq, Nat.reduceAdd, Nat.reduceLeDiff, Nat.reduceSub, Int.reduceToNat, byt, Nat.reduceBEq] | with_reducible refine lw_of (fun _ => ?_) | with_reducible exact True.intro | with_reducible refine fin_same ?_ | with_reducible refine fin_loc ?_ ?_ ?_ | with_reducible exact Loc.refl _ | with_reducible refine Loc.push ?_ _ _ | with_reducible refine Loc.set ?_ _ _ (by first | omega | (simp only [push_n, set_n]; omega)) | with_reducible refine And.intro (by omega) ?_)
  refine cw_of (k80 _ r) ?_
  repeat' (first | simp (maxSteps := 1000000) (disch := omega) only [rb0, rb1, rb2, rb3, rb4, rb5, Od.ev, Ao.dst, Nat.reduceEqDiff, ↓reduceIte, reduceIte, reduceCtorEq, Nat.reduceAdd, Nat.reduceLeDiff, Nat.reduceSub, Int.reduceToNat, byt, Nat.reduceBEq] | with_reducible refine lw_of (fun _ => ?_) | with_reducible exact True.intro | with_reducible refine fin_same ?_ | with_reducible refine fin_loc ?_ ?_ ?_ | with_reducible exact Loc.refl _ | with_reducible refine Loc.push ?_ _ _ | with_reducible refine Loc.set ?_ _ _ (by first | omega | (simp only [push_n, set_n]; omega)) | with_reducible refine And.intro (by omega) ?_)
/-- tree.filled. -/
def filled (l : List Row) : List Row := match l.findIdx? fun r => !r.empty with
  | some i => l.drop i
  | none => []
theorem k75 (σ : St) (l : List Row) : ARet Tryz.prog G 75 [.sl false (rowsPv l)] σ (.sl false (rowsPv (filled l))) σ := by
  refine ret_of has75 (Nat.le_of_ble_eq_true rfl) ?_
  simp only [ir75, filled]
  repeat' (first | simp (maxSteps := 1000000) (disch := omega) only [rb0, rb1, rb2, rb3, rb4, rb5, Od.ev, Ao.dst, Nat.reduceEqDiff, ↓reduceIte, reduceIte, reduceCtorEq, Nat.reduceAdd, Nat.reduceLeDiff, Nat.reduceSub, Int.reduceToNat, byt, Nat.reduceBEq] | with_reducible refine lw_of (fun _ => ?_) | with_reducible exact True.intro | with_reducible refine fin_same ?_ | with_reducible refine fin_loc ?_ ?_ ?_ | with_reducible exact Loc.refl _ | with_reducible refine Loc.push ?_ _ _ | with_reducible refine Loc.set ?_ _ _ (by first | omega | (simp only [push_n, set_n]; omega)) | with_reducible refine And.intro (by omega) ?_)
  refine cw_of (k69 _ l 125 [] [] (fun r => !r.empty) fun r => k125 _ r) ?_
  cases h : l.findIdx? fun r => !r.empty with
  | none =>
    have : idx (fun r => !r.empty) l = -1 := by simp [idx, h]
    repeat' (first | simp (maxSteps := 1000000) (disch := omega) only [rb0, rb1, rb2, rb3, rb4, rb5, Od.ev, Ao.dst, Nat.reduceEqDiff, ↓reduceIte, reduceIte, reduceCtorEq, Nat.reduceAdd, Nat.reduceLeDiff, Nat.reduceSub, Int.reduceToNat, byt, Nat.reduceBEq, this] | with_reducible refine lw_of (fun _ => ?_) | with_reducible exact True.intro | with_reducible refine fin_same ?_ | with_reducible refine fin_loc ?_ ?_ ?_ | with_reducible exact Loc.refl _ | with_reducible refine Loc.push ?_ _ _ | with_reducible refine Loc.set ?_ _ _ (by first | omega | (simp only [push_n, set_n]; omega)) | with_reducible refine And.intro (by omega) ?_)
    rfl
  | some i =>
    have : idx (fun r => !r.empty) l = i := by simp [idx, h]
    have hi : i < l.length := (List.findIdx?_eq_some_iff_getElem.1 h).1
    repeat' (first | simp (maxSteps := 1000000) (disch := omega) only [rb0, rb1, rb2, rb3, rb4, rb5, Od.ev, Ao.dst, Nat.reduceEqDiff, ↓reduceIte, reduceIte, reduceCtorEq, Nat.reduceAdd, Nat.reduceLeDiff, Nat.reduceSub, Int.reduceToNat, byt, Nat.reduceBEq, this, rows_len, rows_size, rows_take, rows_drop] | with_reducible refine lw_of (fun _ => ?_) | with_reducible exact True.intro | with_reducible refine fin_same ?_ | with_reducible refine fin_loc ?_ ?_ ?_ | with_reducible exact Loc.refl _ | with_reducible refine Loc.push ?_ _ _ | with_reducible refine Loc.set ?_ _ _ (by first | omega | (simp only [push_n, set_n]; omega)) | with_reducible refine And.intro (by omega) ?_)
end Gx

/- Part Ad0. -/
/- From what a row reads to the calculus's values. -/
set_option linter.unusedSimpArgs false
set_option linter.unusedVariables false
namespace Gx
open Go Go.Proofs Go.RowKit Go.ChangeShapes Go.Deep

instance : Inhabited Row := ⟨⟨0, [], 0⟩⟩
/-- At the start nothing turns. -/
def gz : Gh := ⟨fun _ => none, fun _ => 0, 0⟩

set_option maxRecDepth 100000 in
theorem rows_R {H : Type} {enc : TypeId × Value → H} {W : World} {base : Nat} {v : Value} {d : DataW H} {p : List MemPlace} (hok : Value.okWide Tryz.prog W .any base 33 v) (h : DataW.Trod enc Tryz.prog W 0 (fun _ => true) true 33 v d p) (hsz : ∀ e s, d = .slice e s → e.length ≤ 2 ^ 48) :
    ∃ l : List Row, R gz W (.sl false (rowsPv l)) v := by
  obtain ⟨a0, len0, cap0, rfl⟩ := Go.WideShapes.okWide_slice Tryz.underlying33 hok
  obtain ⟨fuel, hf⟩ := h
  have hcs : (Value.slice a0 len0 cap0).cells.toList = [.slice a0 len0 cap0] := rfl
  rcases open_slice (e := 48) Tryz.underlying33 hf with ⟨hc, _⟩ | ⟨a, len, cap, m, n, D, Pl, hc, hb, hl, hm, hmm, hxx, hi⟩
  · have hc : [Value.slice a0 len0 cap0] = [.slice none 0 0] := hc
    simp only [List.cons.injEq, Value.slice.injEq, and_true] at hc
    obtain ⟨rfl, rfl, rfl⟩ := hc
    exact ⟨[], .slnil false⟩
  · have hc : [Value.slice a0 len0 cap0] = [.slice (some a) len cap] := hc
    simp only [List.cons.injEq, Value.slice.injEq, and_true] at hc
    obtain ⟨rfl, rfl, rfl⟩ := hc
    have hspot : a.spot = none := by
      simp only [Value.okWide, Tryz.underlying33, Cell.okWide, Cell.ok] at hok
      exact hok.2.2.2.1
    have hm' : m = cap0 := by simpa using hmm
    have hcell48 : Tryz.prog.cellsOf 48 = 3 := by kernel_rfl
    have hrow : ∀ i, i < len0 → ∃ r : Row, W.cell? ⟨a.block, a.off + (i * 3 + 0), none⟩ = some (.int .i64 r.col) ∧ (∃ s : ByteArray, W.cell? ⟨a.block, a.off + (i * 3 + 1), none⟩ = some (.string s) ∧ s.data.toList = r.text ∧ s.size ≤ maxLen) ∧ W.cell? ⟨a.block, a.off + (i * 3 + 2), none⟩ = some (.int .i64 r.at_) := by
      intro i hil
      obtain ⟨cs', hcs', htr⟩ := hi i (by omega)
      obtain ⟨y0, y1, y2, n', _, hlen, h0, h1, h2⟩ := trod_struct3 Tryz.underlying48 htr
      rw [hcell48] at hcs' hlen
      obtain ⟨c0, c1, c2, rfl⟩ : ∃ c0 c1 c2, cs' = [c0, c1, c2] := by
        match cs', hlen with
        | [c0, c1, c2], _ => exact ⟨c0, c1, c2, rfl⟩
      have k3 : Tryz.prog.cellsOf 3 = 1 := by kernel_rfl
      have k9 : Tryz.prog.cellsOf 9 = 1 := by kernel_rfl
      simp only [k3, k9, List.drop_zero, List.drop_succ_cons, List.take_succ_cons, List.take_zero] at h0 h1 h2
      obtain ⟨n0, e0, _, _⟩ := DataW.trod_int Tryz.underlying3 h0
      obtain ⟨s1, e1, _, hs1⟩ := DataW.trod_string Tryz.underlying9 h1
      obtain ⟨n2, e2, _, _⟩ := DataW.trod_int Tryz.underlying3 h2
      simp only [List.cons.injEq, and_true] at e0 e1 e2
      subst e0 e1 e2
      obtain ⟨ab, ao, asp⟩ := a
      simp only at hspot
      subst hspot
      have hcc := (World.cells?_some hcs').2.2
      have hadd1 : ∀ o j, (⟨ab, o, none⟩ : Addr).add j = ⟨ab, o + j, none⟩ := fun o j => by unfold Addr.add; split <;> simp_all
      have hadd : ∀ j, ((⟨ab, ao, none⟩ : Addr).add (i * 3)).add j = ⟨ab, ao + (i * 3 + j), none⟩ := fun j => by rw [hadd1, hadd1, Nat.add_assoc]
      have hcell : ∀ j, j < 3 → W.cell? ⟨ab, ao + (i * 3 + j), none⟩ = [Value.int .i64 n0, .string s1, .int .i64 n2][j]? := by
        intro j hj
        rw [← hadd j]; exact hcc j hj
      exact ⟨⟨n0, s1.data.toList, n2⟩, hcell 0 (by omega), ⟨s1, hcell 1 (by omega), rfl, hs1⟩, hcell 2 (by omega)⟩
    obtain ⟨f, hf2⟩ := choose_lt (α := Row) (p := fun i r => W.cell? ⟨a.block, a.off + (i * 3 + 0), none⟩ = some (.int .i64 r.col) ∧ (∃ s : ByteArray, W.cell? ⟨a.block, a.off + (i * 3 + 1), none⟩ = some (.string s) ∧ s.data.toList = r.text ∧ s.size ≤ maxLen) ∧ W.cell? ⟨a.block, a.off + (i * 3 + 2), none⟩ = some (.int .i64 r.at_)) hrow
    refine ⟨(List.range len0).map f, ?_⟩
    have hlen : (rowsPv ((List.range len0).map f)).length = len0 := by simp [rowsPv]
    have hmax : len0 ≤ 2 ^ 48 := by
      have := hsz _ _ (Prod.mk.inj hxx).1
      simpa using this
    have hget : ∀ i, i < len0 → (rowsPv ((List.range len0).map f))[i]? = some (f i).pv := fun i hi => by simp [rowsPv, hi]
    have h3 : ∀ x ∈ rowsPv ((List.range len0).map f), x.cells.length = 3 := fun x hx => by
      obtain ⟨r, _, rfl⟩ := List.mem_map.1 hx
      rfl
    have key : R gz W (.sl false (rowsPv ((List.range len0).map f))) (.slice (some a) (rowsPv ((List.range len0).map f)).length cap0) := by
      refine .sl _ a cap0 3 (fun j => (W.cell? ⟨a.block, a.off + j, none⟩).getD undef) hspot (by omega) (by omega) (by omega) (fun x hx => ⟨h3 x hx, ?_⟩) (fun j hj => ⟨?_, fun k hk => by cases hk⟩) (fun j x hj => ?_)
      · obtain ⟨r, _, rfl⟩ := List.mem_map.1 hx
        rfl
      · rw [hlen] at hj
        have hi : j / 3 < len0 := by omega
        obtain ⟨e0, ⟨s, e1, _, _⟩, e2⟩ := hf2 (j / 3) hi
        have hj3 : j = j / 3 * 3 + j % 3 := by omega
        have hc : ∃ u, W.cell? ⟨a.block, a.off + j, none⟩ = some u := by
          rw [hj3]
          have : j % 3 = 0 ∨ j % 3 = 1 ∨ j % 3 = 2 := by omega
          rcases this with h | h | h <;> rw [h]
          · exact ⟨_, e0⟩
          · exact ⟨_, e1⟩
          · exact ⟨_, e2⟩
        obtain ⟨u, hu⟩ := hc
        rw [hu]; rfl
      · have hjl : j < len0 * 3 := by
          have := (List.getElem?_eq_some_iff.1 hj).1
          rw [flat_len h3, hlen] at this
          exact this
        have hi : j / 3 < len0 := by omega
        have hfg := flat_get h3 (hget (j / 3) hi) (j % 3) (by omega)
        have hj3 : j / 3 * 3 + j % 3 = j := by omega
        rw [hj3, hj] at hfg
        obtain ⟨e0, ⟨s, e1, es, hs⟩, e2⟩ := hf2 (j / 3) hi
        have : j % 3 = 0 ∨ j % 3 = 1 ∨ j % 3 = 2 := by omega
        rcases this with h | h | h
        · have e : a.off + j = a.off + (j / 3 * 3 + 0) := by omega
          rw [h] at hfg
          simp only [Row.pv, Pv.cells, List.getElem?_cons_zero, Option.some.injEq] at hfg
          rw [e, e0, hfg]; exact .int _ _
        · have e : a.off + j = a.off + (j / 3 * 3 + 1) := by omega
          rw [h] at hfg
          simp only [Row.pv, Pv.cells, List.getElem?_cons_succ, List.getElem?_cons_zero, Option.some.injEq] at hfg
          rw [e, e1, hfg]
          refine .str _ _ es ?_
          rw [← es]
          have : s.data.toList.length = s.size := rfl
          have hm63 : maxLen = 2 ^ 63 - 1 := rfl
          omega
        · have e : a.off + j = a.off + (j / 3 * 3 + 2) := by omega
          rw [h] at hfg
          simp only [Row.pv, Pv.cells, List.getElem?_cons_succ, List.getElem?_cons_zero, Option.some.injEq] at hfg
          rw [e, e2, hfg]; exact .int _ _
    rw [hlen] at key
    exact key
end Gx

/- Part W3. -/
/- plain.Number, walked by the kit. -/
namespace Go.Proofs.GxW
open Go.RowKit Go.Shelf
theorem aw {w W : World} (h : W = w ∨ ∃ t, W = Lib.bytesWorld w 5 t) : Below w.heap.size w W := by
  rcases h with rfl | ⟨t, rfl⟩
  · exact Below.refl _ _
  · exact Lib.bytesWorld_below _ _ _
set_option maxHeartbeats 4000000 in
set_option maxRecDepth 100000 in
theorem number_ok (s : ByteArray) (hmax : s.size ≤ 281474976710656) (v : Int) (t : ByteArray) (h : Lib.atoiAll s.data.toList = .ok v) (w : World)
    (hinj : t.toList = s.toList → t = s) (h203 : ∀ W, Below w.heap.size w W → Calls Tryz.prog 203 #[.int .i64 v] W fun e w' => e = .returned (.string t) ∧ Below W.heap.size W w') :
    Calls Tryz.prog 149 #[.string s] w fun e w' => e = .returned (.tuple #[if t = s then .int .i64 v else .int .i64 0, .bool (decide (t = s))]) ∧ Below w.heap.size w w' := by
  go_enter Tryz.func149, Tryz.ntmps149
  go_wp2_with (go_at_call 202; refine (Tryz.strconv_Atoi_ok s (by omega) v h _).mono ?_; rintro e W1 ⟨rfl, hW⟩)
  have hb1 := aw hW
  clear hW
  go_wp2_with (go_at_call 203; refine (h203 _ hb1).mono ?_; rintro e W2 ⟨rfl, hb2⟩)
  all_goals first
    | (exfalso; rename_i h1; have e : t.toList = s.toList := by rw [h]
       simp [e] at h1; done)
    | (exfalso; rename_i h1; exact h (hinj (by simpa using h1)))
    | (go_ret2; exact ⟨rfl, hb1.trans (hb2.mono hb1.size)⟩)
set_option maxHeartbeats 4000000 in
set_option maxRecDepth 100000 in
theorem number_err (s : ByteArray) (n : Int) (te : TypeId) (w : World) (h202 : Calls Tryz.prog 202 #[.string s] w fun e w' => ∃ N, e = .returned (.tuple #[.int .i64 n, .iface te (.pointer (some ⟨N, 0, none⟩))]) ∧ Below w.heap.size w w') :
    Calls Tryz.prog 149 #[.string s] w fun e w' => e = .returned (.tuple #[.int .i64 0, .bool false]) ∧ Below w.heap.size w w' := by
  go_enter Tryz.func149, Tryz.ntmps149
  go_wp2_with (go_at_call 202; refine h202.mono ?_; rintro e W1 ⟨N, rfl, hb1⟩)
  go_wp2

  all_goals (go_ret2; exact ⟨rfl, hb1⟩)
end Go.Proofs.GxW

/- Part K11. -/
/- plain.Number. -/
set_option linter.unusedSimpArgs false
set_option linter.unusedVariables false
namespace Gx
open Go Go.Proofs Go.RowKit
variable {G : Nat → Option Obj}
theorem ba_loop (s : ByteArray) : ∀ (n i : Nat) (r : List UInt8), s.size - i = n → ByteArray.toList.loop s i r = r.reverse ++ s.data.toList.drop i := by
  intro n
  induction n with
  | zero =>
    intro i r h
    unfold ByteArray.toList.loop
    have h1 : s.size ≤ i := by omega
    have h2 : s.data.toList.length = s.size := rfl
    rw [if_neg (by omega), List.drop_eq_nil_of_le (by omega), List.append_nil]
  | succ n ih =>
    intro i r h
    unfold ByteArray.toList.loop
    have h1 : i < s.size := by omega
    have h2 : s.data.toList.length = s.size := rfl
    have h3 : s.data.toList.drop i = s.data.toList[i]'(by omega) :: s.data.toList.drop (i + 1) := List.drop_eq_getElem_cons (by omega)
    have h4 : s.get! i = s.data.toList[i]'(by omega) := by
      have : i < s.data.size := h1
      simp [ByteArray.get!, getElem!_pos s.data i this]
    rw [if_pos h1, ih (i + 1) _ (by omega), h3, h4, List.reverse_cons, List.append_assoc]; rfl
theorem ba_inj {s t : ByteArray} (h : s.toList = t.toList) : s = t := by
  unfold ByteArray.toList at h
  rw [ba_loop s _ 0 _ rfl, ba_loop t _ 0 _ rfl] at h
  simp at h
  cases s; cases t
  simp at h
  rw [h]
/-- strconv's two errors lie in their variables. -/
class Errs (G : Nat → Option Obj) : Prop where
  e3 : ∀ g w, GL G g w → ∃ ev, w.cell? ⟨3, 0, none⟩ = some ev ∧ (ev = .nilIface ∨ ∃ te pe, ev = .iface te pe)
  e4 : ∀ g w, GL G g w → ∃ ev, w.cell? ⟨4, 0, none⟩ = some ev ∧ (ev = .nilIface ∨ ∃ te pe, ev = .iface te pe)
theorem k203 [Laid G] (σ : St) (n : Int) (h0 : -9223372036854775808 ≤ n) (h1 : n ≤ 9223372036854775807) : ARet Tryz.prog G 203 [.int .i64 n] σ (.str (Lib.itoa n)) σ := by
  refine ret_of has203 (Nat.le_of_ble_eq_true rfl) ?_
  simp only [ir203]
  repeat' (first | simp (maxSteps := 1000000) (disch := omega) only [rb0, rb1, rb2, rb3, rb4, rb5, Od.ev, Ao.dst, Nat.reduceEqDiff, ↓reduceIte, reduceIte, reduceCtorEq, Nat.reduceAdd, Nat.reduceLeDiff, Nat.reduceSub, Int.reduceToNat, byt, Nat.reduceBEq] | with_reducible refine lw_of (fun _ => ?_) | with_reducible exact True.intro | with_reducible refine fin_same ?_ | with_reducible refine fin_loc ?_ ?_ ?_ | with_reducible exact Loc.refl _ | with_reducible refine Loc.push ?_ _ _ | with_reducible refine Loc.set ?_ _ _ (by first | omega | (simp only [push_n, set_n]; omega)) | with_reducible refine And.intro (by omega) ?_ | with_reducible refine cw_of (k228 _ _ h0 h1) ?_)
theorem calls_of_int {P : Program} {f : FuncId} {k : IntKind} {n : Int} {r : Pv} (h : ARet P G f [.int k n] (toSt []) r (toSt [])) {W : World} (hw : ∀ b o, G b = some o → W.heap[b]? = some o) :
    Calls P f #[.int k n] W fun e w' => ∃ v, e = .returned v ∧ Below W.heap.size W w' ∧ ∃ g', R g' w' r.shr v := by
  refine Calls.mono (h.2 ⟨fun _ => none, fun _ => 0, 0⟩ W #[.int k n] (fun _ => none) (fun _ => False) (fun b o hb => ⟨rfl, hw b o hb⟩) rfl ⟨rfl, fun t ht => ?_, fun b hb => absurd hb (Nat.not_lt_zero b), fun b hb => absurd hb (Nat.not_lt_zero b), fun p q x hp => (by cases hp), fun p x hp => (by cases hp), fun p x hp => (by cases hp), fun x hx => hx.elim⟩) fun e w' hpost => ?_
  · obtain rfl : t = 0 := by simpa using ht
    exact .sh (.int _ _)
  · obtain ⟨v, rfl, g', own', hI, hE, _⟩ := hpost
    exact ⟨v, rfl, ⟨hE.os, hE.tape, hE.output, hE.size, fun b hb => (hE.froz b hb rfl).2⟩, g', (hI.slot 0 (by simp)).shr⟩
def numR (s : List UInt8) : Pv := match Lib.atoiAll s with
  | .ok v => .tup [if Lib.itoa v = s then .int .i64 v else .int .i64 0, .bool (decide (Lib.itoa v = s))]
  | _ => .tup [.int .i64 0, .bool false]
theorem two_R {g : Gh} {w : World} (a : Int) (b : Bool) : R g w (.tup [.int .i64 a, .bool b]) (.tuple #[.int .i64 a, .bool b]) := .tup _ _ (by simp) fun i x v hx hv => by
  match i with
  | 0 => simp at hx hv; subst hx hv; exact .int _ _
  | 1 => simp at hx hv; subst hx hv; exact .bool _
  | n + 2 => simp at hx
/-- No numeral: an error. -/
theorem atoi_bad (s : ByteArray) (hlim : s.size ≤ 281474976710656) (h1 : ∀ v, Lib.atoiAll s.data.toList ≠ .ok v) (h2 : Lib.atoiAll s.data.toList ≠ .range) (ev : Value) (w : World) (hv : w.cell? ⟨3, 0, none⟩ = some ev) (hev : ev = .nilIface ∨ ∃ te pe, ev = .iface te pe) :
    Calls Tryz.prog 202 #[.string s] w fun e w' => ∃ N, e = .returned (.tuple #[.int .i64 0, .iface 260 (.pointer (some ⟨N, 0, none⟩))]) ∧ Below w.heap.size w w' := by
  cases h : Lib.atoiAll s.data.toList with
  | ok v => exact absurd h (h1 v)
  | range => exact absurd h h2
  | _ => exact (Any.strconv_Atoi_syntax Tryz.laysC172 s hlim h ev w hv hev).mono fun e w' ⟨N, he, _, _, hB⟩ => ⟨N, he, hB⟩
theorem k149 [Laid G] [Errs G] (σ : St) (s : List UInt8) (hs : s.length ≤ 281474976710656) : ARet Tryz.prog G 149 [.str s] σ (numR s) σ := by
  refine aret_str (ent Tryz.func149 (by kernel_rfl)) fun g w s' hG hd hl => ?_
  have hsz : s'.size ≤ 281474976710656 := by
    have : s'.size = s'.data.toList.length := rfl
    rw [this, hd]; exact hs
  unfold numR
  cases h : Lib.atoiAll s with
  | ok v =>
    obtain ⟨vb0, vb1⟩ := Lib.atoiAll_bounds h
    have h203 : ∀ W, Below w.heap.size w W → Calls Tryz.prog 203 #[.int .i64 v] W fun e w' => e = .returned (.string ⟨(Lib.itoa v).toArray⟩) ∧ Below W.heap.size W w' := by
      intro W hB
      refine (calls_of_int (k203 (G := G) (toSt []) v (by omega) (by omega)) (W := W) fun b o hb => ?_).mono ?_
      · obtain ⟨_, h2⟩ := hG b o hb
        rw [hB.block b (Array.getElem?_eq_some_iff.1 h2).1]; exact h2
      · rintro e w' ⟨u, rfl, hB', g', hR⟩
        obtain ⟨t, rfl, ht, _⟩ := R.str_inv (show R g' w' (.str (Lib.itoa v)) u from hR)
        refine ⟨?_, hB'⟩
        congr 2
        cases t with
        | mk d => simp only at ht; rw [← ht]
    refine (GxW.number_ok s' hsz v ⟨(Lib.itoa v).toArray⟩ (by rw [hd]; exact h) w ba_inj h203).mono ?_
    rintro e w' ⟨rfl, hB⟩
    have hst : ((⟨(Lib.itoa v).toArray⟩ : ByteArray) = s') = (Lib.itoa v = s) := by
      rw [← hd]
      cases s' with
      | mk d => simp only [ByteArray.mk.injEq, eq_iff_iff]; constructor
                · intro e; rw [← e]
                · intro e; rw [e]
    refine ⟨_, rfl, hB, ?_⟩
    simp only [hst]
    by_cases hq : Lib.itoa v = s
    · simp only [hq, if_true, decide_true]; exact two_R _ _
    · simp only [hq, if_false, decide_false]; exact two_R _ _
  | range =>
    obtain ⟨ev, h1, h2⟩ := Errs.e4 g w hG
    refine (GxW.number_err s' (Lib.atoiSat s'.data.toList) 260 w ((Tryz.strconv_Atoi_range s' hsz (by rw [hd]; exact h) ev w h1 h2).mono ?_)).mono ?_
    · rintro e w' ⟨N, rfl, _, _, hB⟩; exact ⟨N, rfl, hB⟩
    · rintro e w' ⟨rfl, hB⟩; exact ⟨_, rfl, hB, two_R _ _⟩
  | _ =>
    obtain ⟨ev, h1, h2⟩ := Errs.e3 g w hG
    refine (GxW.number_err s' 0 260 w (atoi_bad s' hsz (by rw [hd, h]; intro v e; cases e) (by rw [hd, h]; intro e; cases e) ev w h1 h2)).mono ?_
    rintro e w' ⟨rfl, hB⟩; exact ⟨_, rfl, hB, two_R _ _⟩
end Gx

/- Part Ad1. -/
/- What the rows' lists give, and the calculus's own tables. -/
set_option linter.unusedSimpArgs false
set_option linter.unusedVariables false
namespace Gx
open Go Go.Proofs Go.RowKit Go.ChangeShapes Go.Lib
open Go.Proofs.YtgbkgdhnfjndgaaGreatDoor

/-- What a world holds where its tables are laid. -/
structure Tabs (W : World) : Prop where
  utf : Lib.Utf8Tabs 1 2 W
  pow : Lib.TabIs Tryz.prog W "internal/strconv.uint64pow10" .u64 Lib.pow10Tab
  e3 : ∃ ev, W.cell? ⟨3, 0, none⟩ = some ev ∧ (ev = .nilIface ∨ ∃ te pe, ev = .iface te pe)
  e4 : ∃ ev, W.cell? ⟨4, 0, none⟩ = some ev ∧ (ev = .nilIface ∨ ∃ te pe, ev = .iface te pe)

theorem gpow : Tryz.prog.globalNamed "internal/strconv.uint64pow10" = some 5 := by kernel_rfl
theorem gsyn : Tryz.prog.globalNamed "strconv.ErrSyntax" = some 3 := by kernel_rfl
theorem gran : Tryz.prog.globalNamed "strconv.ErrRange" = some 4 := by kernel_rfl
theorem tpow : (Tryz.prog.globals[5]?).map (·.type) = some 280 := by kernel_rfl
theorem tsyn : (Tryz.prog.globals[3]?).map (·.type) = some 145 := by kernel_rfl
theorem tran : (Tryz.prog.globals[4]?).map (·.type) = some 145 := by kernel_rfl
theorem c13 : Tryz.prog.cellsOf 233 = 1 := by kernel_rfl
theorem c280 : Tryz.prog.cellsOf 280 = 20 := by kernel_rfl
theorem extra8 : U8Extra Tryz.prog Tryz.lays260_ren := ⟨by kernel_rfl, by kernel_rfl, by kernel_rfl, by kernel_rfl, by kernel_rfl, by kernel_rfl, by kernel_rfl⟩

theorem dFirst : Rows.laid_unicode_utf8_first = firstData := by kernel_rfl
theorem dAccept : (Rows.laid_unicode_utf8_acceptRanges : DataW Unit) = acceptData := by kernel_rfl
theorem dPow : (Rows.laid_internal_strconv_uint64pow10 : DataW Unit) = tabData .u64 pow10Tab := by kernel_rfl
theorem plainAll : (Rows.loadPartsRow.laid.all fun x => x.2.handleName?.isNone) = true := by kernel_rfl

theorem sent_cell {W : World} {n nm : String} {d : DataW Unit} {g : Nat} {ti : TypeId} {ms : Array (String × TypeId)} (h : VarReads Tryz.prog W n (.iface nm d)) (hg : Tryz.prog.globalNamed n = some g) (ht : (Tryz.prog.globals[g]?).map (·.type) = some ti)
    (hi : Tryz.prog.underlying ti = some (.interface ms)) : ∃ ev, W.cell? ⟨g, 0, none⟩ = some ev ∧ (ev = .nilIface ∨ ∃ te pe, ev = .iface te pe) := by
  obtain ⟨g', t, cs, fuel, p, hg', hty, hvar, hd⟩ := h
  obtain rfl := Option.some.inj (hg.symm.trans hg')
  obtain rfl := Option.some.inj (ht.symm.trans hty)
  obtain ⟨_, u, v, e, _⟩ := iface_of_trod hi hd
  refine ⟨.iface u v, ?_, .inr ⟨u, v, rfl⟩⟩
  rw [World.var?_cell hg hvar 0, ← Array.getElem?_toList, e]; rfl

theorem tabs_of {W : World} (h : laidMetH Tryz.prog Rows.loadPartsRow.laid W) : Tabs W := by
  rw [MakeChecks.laidMetH_plain _ _ _ plainAll] at h
  have hm : ∀ n d, (n, d) ∈ Rows.loadPartsRow.laid → VarReads Tryz.prog W n d := fun n d hm => laidMet.reads h hm
  have f1 := hm "unicode/utf8.first" Rows.laid_unicode_utf8_first (by simp [Rows.loadPartsRow])
  have f2 := hm "unicode/utf8.acceptRanges" Rows.laid_unicode_utf8_acceptRanges (by simp [Rows.loadPartsRow])
  have f3 := hm "strconv.ErrSyntax" Rows.laid_strconv_ErrSyntax (by simp [Rows.loadPartsRow])
  have f4 := hm "strconv.ErrRange" Rows.laid_strconv_ErrRange (by simp [Rows.loadPartsRow])
  have f5 := hm "internal/strconv.uint64pow10" Rows.laid_internal_strconv_uint64pow10 (by simp [Rows.loadPartsRow])
  rw [dAccept] at f2
  rw [dPow] at f5
  refine ⟨utf8Tabs_of_readsT (U8Types.of260 Tryz.lays260) extra8 (dFirst ▸ f1) f2, ?_, ?_, ?_⟩
  · obtain ⟨g', t, cs, fuel, p, hg', hty, hvar, hd⟩ := f5
    obtain rfl := Option.some.inj (gpow.symm.trans hg')
    obtain rfl := Option.some.inj (tpow.symm.trans hty)
    unfold TabIs
    have hcs := cells_of_tab (n := 20) (k := .u64) Tryz.underlying280 Tryz.underlying233 c13 c280 hd
    rw [hvar, ← hcs]
  · exact sent_cell f3 gsyn tsyn Tryz.underlying145
  · exact sent_cell f4 gran tran Tryz.underlying145

/-- The blocks of the program's variables, as a world holds them. -/
def gG (W : World) : Nat → Option Obj := fun b => if b < 8 then W.heap[b]? else none
theorem gw_cell {W w : World} {g : Gh} (h : GL (gG W) g w) {b o : Nat} (hb : b < 8) {v : Value} (hc : W.cell? ⟨b, o, none⟩ = some v) : w.cell? ⟨b, o, none⟩ = some v := by
  cases hw : W.heap[b]? with
  | none => simp [World.cell?, hw] at hc
  | some x =>
    have h2 := (h b x (by simp [gG, hb, hw])).2
    rw [← hc]
    simp only [World.cell?, h2, hw]
theorem laid_gw {W : World} (h : Tabs W) : Laid (gG W) where
  utf g w hG := ⟨fun c hc => gw_cell hG (by omega) (h.utf.1 c hc), fun i hi => ⟨gw_cell hG (by omega) (h.utf.2 i hi).1, gw_cell hG (by omega) (h.utf.2 i hi).2⟩⟩
  pow g w hG := by
    have := h.pow
    unfold TabIs World.var? at this ⊢
    rw [gpow] at this ⊢
    simp only [Option.bind_some] at this ⊢
    cases hw : W.heap[5]? with
    | none => simp [hw] at this
    | some x =>
      have h2 := (hG 5 x (by simp [gG, hw])).2
      rw [h2]; rw [hw] at this; exact this
theorem errs_gw {W : World} (h : Tabs W) : Errs (gG W) where
  e3 g w hG := by obtain ⟨ev, h1, h2⟩ := h.e3; exact ⟨ev, gw_cell hG (by omega) h1, h2⟩
  e4 g w hG := by obtain ⟨ev, h1, h2⟩ := h.e4; exact ⟨ev, gw_cell hG (by omega) h1, h2⟩
theorem gl_gz (W : World) : GL (gG W) gz W := fun b o hb => by
  unfold gG at hb
  split at hb
  · exact ⟨rfl, hb⟩
  · cases hb
end Gx

/- Part Ad2. -/
/- From a contract of the calculus to a row's own contract. -/
set_option linter.unusedSimpArgs false
set_option linter.unusedVariables false
namespace Gx
open Go Go.Proofs Go.RowKit Go.ChangeShapes Go.WideShapes Go.Lib
open Go.Proofs.YtgbkgdhnfjndgaaGreatDoor

theorem tryz_laidOut : laidOutB Tryz.prog = true := by kernel_rfl

theorem below_ext {W w' : World} {g' : Gh} (hE : Ext gz W g' w') : Below W.heap.size W w' := ⟨hE.os, hE.tape, hE.output, hE.size, fun b hb => (hE.froz b hb rfl).2⟩

/-- A contract between states that hold nothing, at a world whose arguments read so. -/
theorem calls_of_aret {P : Program} {G : Nat → Option Obj} {f : FuncId} {args : List Pv} {r : Pv} {σ' : St} (h : ARet P G f args (toSt []) r σ') {W : World} (hG : GL G gz W) {vs : Array Value} (hn : vs.size = args.length)
    (hR : ∀ t, t < vs.size → S gz W (args.getD t .un) (vs.getD t undef) none) : Calls P f vs W fun e w' => ∃ v, e = .returned v ∧ Below W.heap.size W w' ∧ ∃ g', R g' w' r.shr v := by
  refine Calls.mono (h.2 gz W vs (fun _ => none) (fun _ => False) hG hn ⟨rfl, fun t ht => hR t ht, fun b hb => absurd hb (Nat.not_lt_zero b), fun b hb => absurd hb (Nat.not_lt_zero b), fun p q x hp => (by cases hp), fun p x hp => (by cases hp), fun p x hp => (by cases hp), fun x hx => hx.elim⟩) fun e w' hpost => ?_
  obtain ⟨v, rfl, g', own', hI, hE, _⟩ := hpost
  exact ⟨v, rfl, below_ext hE, g', (hI.slot 0 (by simp)).shr⟩

set_option maxRecDepth 100000 in
theorem okb (W' : World) : Value.okWide Tryz.prog W' .any 0 4 (.bool true) := okWide_bool_mk (P := Tryz.prog) Tryz.underlying4 true
section
variable {H : Type} {enc : TypeId × Value → H}
theorem trodAll_stays {W W' : World} {sp' : Nat → Bool} : ∀ {ts : List TypeId} {vs : List Value} {ds : List (DataW H)} {ps : List MemPlace}, (∀ t ∈ ts, Tryz.prog.readableRec t = true ∧ t < Tryz.prog.types.size) →
    DataW.TrodAll enc Tryz.prog W 0 (fun _ => true) true ts vs ds ps → (∀ p ∈ ps, W.sameAt W' p) → (∀ p ∈ ps, sp' p.block = true) → DataW.TrodAll enc Tryz.prog W' 0 sp' true ts vs ds ps
  | [], _, _, _, _, h, _, _ => by
    obtain ⟨rfl, rfl, rfl⟩ := trodAll_nil h
    exact trodAll_mk0
  | t :: ts, _, _, _, ht, h, hs, hp => by
    obtain ⟨v, vs1, d, ds1, a, b, rfl, rfl, rfl, h1, h2⟩ := trodAll_cons h
    have h0 := ht t (by simp)
    exact ⟨a, b, WideElems.Trod_stays tryz_laidOut h0.1 h0.2 h1 (fun p hm => hs p (List.mem_append_left _ hm)) (fun p hm => hp p (List.mem_append_left _ hm)),
      trodAll_stays (fun t hm => ht t (List.mem_cons_of_mem _ hm)) h2 (fun p hm => hs p (List.mem_append_right _ hm)) (fun p hm => hp p (List.mem_append_right _ hm)), rfl⟩

set_option maxRecDepth 100000 in
/-- A law's end: it returned true and all that was there is as it was. -/
theorem post_law {f : Func} {s : ChangeSpec} {apart fresh handsOn again : Bool} {W W' : World} {args : Array Value} {ds gs : List (DataW H)} {before : List MemPlace}
    (hW : DataW.Whole enc Tryz.prog f.params.toList s.vars apart W args.toList ds gs before) (hvs : s.vars = []) (hr : f.resultTypes = #[4]) (hs : s.fn H (ds ++ gs) = { results := [.lit (.bool true)], args := ds })
    (ht : ∀ t ∈ f.params.toList, Tryz.prog.readableRec t = true ∧ t < Tryz.prog.types.size) (hB : Below W.heap.size W W') : s.post enc Tryz.prog f apart fresh handsOn again W args (.bool true) W' := by
  have hlt := hW.lt
  have hW' := hW
  obtain ⟨p, q, hA, hV, rfl, hfz, hnd⟩ := hW
  rw [hvs] at hV
  obtain ⟨rfl, rfl⟩ := trodVars_none hV
  have hlt' : ∀ x ∈ p, x.block < W.heap.size := fun x hx => hlt x (by simpa using hx)
  have hargs : ∀ sp : Nat → Bool, (∀ x ∈ p, sp x.block = true) → DataW.TrodAll enc Tryz.prog W' 0 sp true f.params.toList args.toList ds p := fun sp hsp => trodAll_stays ht hA (fun x hx => hB.same (hlt' x hx)) hsp
  have hres : ∀ (b : Nat) (sp : Nat → Bool) (hd : Bool), DataW.TrodAll enc Tryz.prog W' b sp hd f.resultTypes.toList ((Value.bool true).resultList f.resultTypes.size) [.lit (.bool true)] [] := fun b sp hd => by
    rw [hr]
    exact trodAll_cons_mk (shut_bool Tryz.underlying4 _) trodAll_mk0
  have hvars : ∀ sp : Nat → Bool, DataW.TrodVars enc Tryz.prog W' sp s.vars ([] : List (DataW H)) [] := fun sp => by rw [hvs]; exact rfl
  have hok : ∀ (j : Nat) (t : TypeId) (r : Value), f.resultTypes[j]? = some t → ((Value.bool true).resultList f.resultTypes.size)[j]? = some r → Value.okWide Tryz.prog W' .any 0 t r :=
    @ok_one Tryz.prog W' f (.bool true) 4 hr rfl (okb W')
  refine ⟨ds, [], p ++ [], [], p, [], hW', ?_, ?_, ?_, World.keptBut_mono (fun x hx => ⟨hx, ?_⟩) (hB.frame (· ∈ p ++ [])), fun _ => ⟨hok, [.lit (.bool true)] ++ ds, [], ([] ++ p) ++ [], ⟨[] ++ p, [], trodAll_append (hargs _ (fun _ _ => rfl)) (hres _ _ _), hvars _, rfl, ?_, ?_⟩, ?_⟩⟩
  · rw [hs]; exact hres _ _ _
  · rw [hs]; exact hargs _ (fun x hx => by simpa using hlt' x hx)
  · rw [hs]; exact hvars _
  · exact .inr (.inl (by simpa using hx))
  · intro b off hp
    have hp' : MemPlace.cell b off ∈ p := by simpa using hp
    rw [hB.frozen (hlt' _ hp')]
    exact hfz b off (by simpa using hp')
  · intro ha
    have := hnd ha
    simpa using this
  · intro x hx _
    simpa using hx
end
end Gx
