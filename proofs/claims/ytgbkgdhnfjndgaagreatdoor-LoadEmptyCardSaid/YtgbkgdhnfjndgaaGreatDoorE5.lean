import Derived.Test.YtgbkgdhnfjndgaaGreatDoorE4
import Derived.Deep.DeepWitnessRowRef
import Derived.KernelRfl
import Derived.Lay
import Derived.OpenShut
import Derived.ProofKit
import Derived.Test.YtgbkgdhnfjndgaaGreatDoorCards
import Derived.Test.YtgbkgdhnfjndgaaGreatDoorSh
import Derived.WalkKit
/- A part of the proof: a calculus of values over the model, and the functions that the statement reaches, each once, in that calculus. -/
set_option linter.all false
set_option linter.unusedSimpArgs false
set_option linter.unusedVariables false

/- Part K8. -/
/- References of layers 2 and 11 over rows. -/
set_option linter.unusedSimpArgs false
set_option linter.unusedVariables false
namespace Gx
open Go Go.Proofs Go.RowKit
variable {G : Nat → Option Obj}
theorem k28 (σ : St) (r : Row) : ARet Tryz.prog G 28 [r.pv] σ (.bool r.empty) σ := by
  refine ret_of has28 (Nat.le_of_ble_eq_true rfl) ?_
  simp only [ir28, Row.pv, Row.empty]
  cases ht : r.text with
  | nil =>
    repeat' (first | simp (maxSteps := 1000000) (disch := omega) only [rb0, rb1, rb2, rb3, rb4, rb5, Od.ev, Ao.dst, Nat.reduceEqDiff, ↓reduceIte, reduceIte, reduceCtorEq, Nat.reduceAdd, Nat.reduceLeDiff, Nat.reduceSub, Int.reduceToNat, byt, Nat.reduceBEq, ht] | with_reducible refine lw_of (fun _ => ?_) | with_reducible exact True.intro | with_reducible refine fin_same ?_ | with_reducible refine fin_loc ?_ ?_ ?_ | with_reducible exact Loc.refl _ | with_reducible refine Loc.push ?_ _ _ | with_reducible refine Loc.set ?_ _ _ (by first | omega | (simp only [push_n, set_n]; omega)) | with_reducible refine And.intro (by omega) ?_)
  | cons c t =>
    repeat' (first | simp (maxSteps := 1000000) (disch := omega) only [rb0, rb1, rb2, rb3, rb4, rb5, Od.ev, Ao.dst, Nat.reduceEqDiff, ↓reduceIte, reduceIte, reduceCtorEq, Nat.reduceAdd, Nat.reduceLeDiff, Nat.reduceSub, Int.reduceToNat, byt, Nat.reduceBEq, ht] | with_reducible refine lw_of (fun _ => ?_) | with_reducible exact True.intro | with_reducible refine fin_same ?_ | with_reducible refine fin_loc ?_ ?_ ?_ | with_reducible exact Loc.refl _ | with_reducible refine Loc.push ?_ _ _ | with_reducible refine Loc.set ?_ _ _ (by first | omega | (simp only [push_n, set_n]; omega)) | with_reducible refine And.intro (by omega) ?_)
    by_cases h : c = 35
    · subst h; rfl
    · have h' : ¬ (c.toNat : Int) = 35 := fun e => h (by have := (u8eq c 35).mp e; exact this)
      simp [h, h']
theorem k58 (σ : St) (r : Row) : ARet Tryz.prog G 58 [r.pv] σ (.bool (isMark r)) σ := by
  refine ret_of has58 (Nat.le_of_ble_eq_true rfl) ?_
  simp only [ir58, Row.pv, isMark]
  by_cases h : r.col = 0
  · repeat' (first | simp (maxSteps := 1000000) (disch := omega) only [rb0, rb1, rb2, rb3, rb4, rb5, Od.ev, Ao.dst, Nat.reduceEqDiff, ↓reduceIte, reduceIte, reduceCtorEq, Nat.reduceAdd, Nat.reduceLeDiff, Nat.reduceSub, Int.reduceToNat, byt, Nat.reduceBEq, h] | with_reducible refine lw_of (fun _ => ?_) | with_reducible exact True.intro | with_reducible refine fin_same ?_ | with_reducible refine fin_loc ?_ ?_ ?_ | with_reducible exact Loc.refl _ | with_reducible refine Loc.push ?_ _ _ | with_reducible refine Loc.set ?_ _ _ (by first | omega | (simp only [push_n, set_n]; omega)) | with_reducible refine And.intro (by omega) ?_)
  · repeat' (first | simp (maxSteps := 1000000) (disch := omega) only [rb0, rb1, rb2, rb3, rb4, rb5, Od.ev, Ao.dst, Nat.reduceEqDiff, ↓reduceIte, reduceIte, reduceCtorEq, Nat.reduceAdd, Nat.reduceLeDiff, Nat.reduceSub, Int.reduceToNat, byt, Nat.reduceBEq, h] | with_reducible refine lw_of (fun _ => ?_) | with_reducible exact True.intro | with_reducible refine fin_same ?_ | with_reducible refine fin_loc ?_ ?_ ?_ | with_reducible exact Loc.refl _ | with_reducible refine Loc.push ?_ _ _ | with_reducible refine Loc.set ?_ _ _ (by first | omega | (simp only [push_n, set_n]; omega)) | with_reducible refine And.intro (by omega) ?_)
theorem k59 (σ : St) (l : List Row) : ARet Tryz.prog G 59 [.sl false (rowsPv l)] σ (.bool (l.any fun r => !r.empty)) σ := by
  refine ret_of has59 (Nat.le_of_ble_eq_true rfl) ?_
  simp only [ir59]
  repeat' (first | simp (maxSteps := 1000000) (disch := omega) only [rb0, rb1, rb2, rb3, rb4, rb5, Od.ev, Ao.dst, Nat.reduceEqDiff, ↓reduceIte, reduceIte, reduceCtorEq, Nat.reduceAdd, Nat.reduceLeDiff, Nat.reduceSub, Int.reduceToNat, byt, Nat.reduceBEq] | with_reducible refine lw_of (fun _ => ?_) | with_reducible exact True.intro | with_reducible refine fin_same ?_ | with_reducible refine fin_loc ?_ ?_ ?_ | with_reducible exact Loc.refl _ | with_reducible refine Loc.push ?_ _ _ | with_reducible refine Loc.set ?_ _ _ (by first | omega | (simp only [push_n, set_n]; omega)) | with_reducible refine And.intro (by omega) ?_)
  refine loop_rule (fun n ρ σ' => σ' = σ ∧ ∃ k : Nat, n = l.length - k ∧ k ≤ l.length ∧ ρ 0 = .sl false (rowsPv l) ∧ ρ 3 = .int .i64 k ∧ (l.any fun r => !r.empty) = (l.drop k).any fun r => !r.empty) (fun n ρ σ' hI => ?_) ⟨rfl, 0, rfl, by omega, rfl, rfl, rfl⟩
  obtain ⟨rfl, k, rfl, hle, h0, h3, ha⟩ := hI
  repeat' (first | simp (maxSteps := 1000000) (disch := omega) only [rb0, rb1, rb2, rb3, rb4, rb5, Od.ev, Ao.dst, Nat.reduceEqDiff, ↓reduceIte, reduceIte, reduceCtorEq, Nat.reduceAdd, Nat.reduceLeDiff, Nat.reduceSub, Int.reduceToNat, byt, Nat.reduceBEq, h0, h3, rows_size] | with_reducible refine lw_of (fun _ => ?_) | with_reducible exact True.intro | with_reducible refine fin_same ?_ | with_reducible refine fin_loc ?_ ?_ ?_ | with_reducible exact Loc.refl _ | with_reducible refine Loc.push ?_ _ _ | with_reducible refine Loc.set ?_ _ _ (by first | omega | (simp only [push_n, set_n]; omega)) | with_reducible refine And.intro (by omega) ?_)
  refine bw_dec (fun h => ?_) (fun h => ?_)
  · have hlt : k < l.length := by omega
    have hk : l[k]? = some l[k] := List.getElem?_eq_getElem hlt
    have hw : IntKind.i64.wrap ((k : Int) + 1) = (k : Int) + 1 := wrap64 (by omega)
    repeat' (first | simp (maxSteps := 1000000) (disch := omega) only [rb0, rb1, rb2, rb3, rb4, rb5, Od.ev, Ao.dst, Nat.reduceEqDiff, ↓reduceIte, reduceIte, reduceCtorEq, Nat.reduceAdd, Nat.reduceLeDiff, Nat.reduceSub, Int.reduceToNat, byt, Nat.reduceBEq, h0, h3, rows_at, hk, row_cells] | with_reducible refine lw_of (fun _ => ?_) | with_reducible exact True.intro | with_reducible refine fin_same ?_ | with_reducible refine fin_loc ?_ ?_ ?_ | with_reducible exact Loc.refl _ | with_reducible refine Loc.push ?_ _ _ | with_reducible refine Loc.set ?_ _ _ (by first | omega | (simp only [push_n, set_n]; omega)) | with_reducible refine And.intro (by omega) ?_)
    have := k28 (G := G) σ' l[k]
    simp only [Row.pv] at this
    refine cw_of this ?_
    have hd : l.drop k = l[k] :: l.drop (k + 1) := List.drop_eq_getElem_cons hlt
    rw [hd, List.any_cons] at ha
    cases he : l[k].empty with
    | true =>
      rw [he] at ha
      repeat' (first | simp (maxSteps := 1000000) (disch := omega) only [rb0, rb1, rb2, rb3, rb4, rb5, Od.ev, Ao.dst, Nat.reduceEqDiff, ↓reduceIte, reduceIte, reduceCtorEq, Nat.reduceAdd, Nat.reduceLeDiff, Nat.reduceSub, Int.reduceToNat, byt, Nat.reduceBEq, h0, h3, hw] | with_reducible refine lw_of (fun _ => ?_) | with_reducible exact True.intro | with_reducible refine fin_same ?_ | with_reducible refine fin_loc ?_ ?_ ?_ | with_reducible exact Loc.refl _ | with_reducible refine Loc.push ?_ _ _ | with_reducible refine Loc.set ?_ _ _ (by first | omega | (simp only [push_n, set_n]; omega)) | with_reducible refine And.intro (by omega) ?_)
      exact ⟨_, by omega, k + 1, rfl, by omega, by omega, by simpa using ha⟩
    | false =>
      rw [he] at ha
      repeat' (first | simp (maxSteps := 1000000) (disch := omega) only [rb0, rb1, rb2, rb3, rb4, rb5, Od.ev, Ao.dst, Nat.reduceEqDiff, ↓reduceIte, reduceIte, reduceCtorEq, Nat.reduceAdd, Nat.reduceLeDiff, Nat.reduceSub, Int.reduceToNat, byt, Nat.reduceBEq, h0, h3, hw] | with_reducible refine lw_of (fun _ => ?_) | with_reducible exact True.intro | with_reducible refine fin_same ?_ | with_reducible refine fin_loc ?_ ?_ ?_ | with_reducible exact Loc.refl _ | with_reducible refine Loc.push ?_ _ _ | with_reducible refine Loc.set ?_ _ _ (by first | omega | (simp only [push_n, set_n]; omega)) | with_reducible refine And.intro (by omega) ?_)
      rw [ha]; rfl
  · repeat' (first | simp (maxSteps := 1000000) (disch := omega) only [rb0, rb1, rb2, rb3, rb4, rb5, Od.ev, Ao.dst, Nat.reduceEqDiff, ↓reduceIte, reduceIte, reduceCtorEq, Nat.reduceAdd, Nat.reduceLeDiff, Nat.reduceSub, Int.reduceToNat, byt, Nat.reduceBEq, h0, h3] | with_reducible refine lw_of (fun _ => ?_) | with_reducible exact True.intro | with_reducible refine fin_same ?_ | with_reducible refine fin_loc ?_ ?_ ?_ | with_reducible exact Loc.refl _ | with_reducible refine Loc.push ?_ _ _ | with_reducible refine Loc.set ?_ _ _ (by first | omega | (simp only [push_n, set_n]; omega)) | with_reducible refine And.intro (by omega) ?_)
    rw [ha, List.drop_eq_nil_of_le (by omega)]; rfl
end Gx

/- Part K9. -/
/- The reference's parts. -/
set_option linter.unusedSimpArgs false
set_option linter.unusedVariables false
namespace Gx
open Go Go.Proofs Go.RowKit
variable {G : Nat → Option Obj}
def tailE (l : List Row) (k : Nat) : List (Nat × List Row) := if k ≤ l.length then eachN (l.length - k + 1) k (l.drop k) else []
theorem tailE_step (l : List Row) (k m : Nat) (hk : k ≤ l.length) (hm : mk1 (l.drop k) = m) : tailE l k = (if k > 0 || ((l.drop k).take m).any (fun r => !r.empty) then [(k, (l.drop k).take m)] else []) ++ tailE l (k + m + 1) := by
  have hdl : (l.drop k).length = l.length - k := by simp
  have hmk := mk1_le (l.drop k)
  unfold tailE
  rw [if_pos hk]
  have h1 : eachN (l.length - k + 1) k (l.drop k) = (if k > 0 || ((l.drop k).take m).any (fun r => !r.empty) then [(k, (l.drop k).take m)] else []) ++ (if m < (l.drop k).length then eachN (l.length - k) (k + m + 1) ((l.drop k).drop (m + 1)) else []) := by rw [← hm]; rfl
  rw [h1]
  congr 1
  by_cases hml : m < (l.drop k).length
  · rw [if_pos hml, if_pos (by omega), List.drop_drop]
    rw [eachN_more (l.length - k) _ _ (by simp; omega)]
    have e : k + (m + 1) = k + m + 1 := by omega
    rw [e]
    congr 1
    simp
  · rw [if_neg hml, if_neg (by omega)]
theorem tailE_0 (l : List Row) : tailE l 0 = eachL l := by simp [tailE, eachL]
theorem mk1_at (l : List Row) (k m : Nat) (h0 : ∀ j x, k ≤ j → j < k + m → l[j]? = some x → isMark x = false) (h1 : k + m ≤ l.length) (h2 : k + m = l.length ∨ ∃ x, l[k + m]? = some x ∧ isMark x = true) : mk1 (l.drop k) = m := by
  unfold mk1
  rcases h2 with h2 | ⟨x, hx, hp⟩
  · have : (l.drop k).findIdx? isMark = none := by
      rw [List.findIdx?_eq_none_iff]
      intro x hx
      obtain ⟨j, hj⟩ := List.mem_iff_getElem?.1 hx
      rw [List.getElem?_drop] at hj
      have := (List.getElem?_eq_some_iff.1 hj).1
      exact h0 (k + j) x (by omega) (by omega) hj
    rw [this]; simp; omega
  · have hl := (List.getElem?_eq_some_iff.1 hx).1
    have : (l.drop k).findIdx? isMark = some m := by
      rw [List.findIdx?_eq_some_iff_getElem]
      refine ⟨by simp; omega, ?_, fun j hj => ?_⟩
      · rw [List.getElem_drop]
        rw [(List.getElem?_eq_some_iff.1 hx).2]; exact hp
      · rw [List.getElem_drop]
        have := h0 (k + j) l[k + j] (by omega) (by omega) (List.getElem?_eq_getElem (by omega))
        simpa using this
    rw [this]; rfl
theorem k31 (σ : St) (l : List Row) (hs : l.length < 2 ^ 32 - 1) : ARet Tryz.prog G 31 [.sl false (rowsPv l)] σ (.sl false ((parts l).map partPv)) σ := by
  refine ret_of has31 (Nat.le_of_ble_eq_true rfl) ?_
  simp only [ir31]
  repeat' (first | simp (maxSteps := 1000000) (disch := omega) only [rb0, rb1, rb2, rb3, rb4, rb5, Od.ev, Ao.dst, Nat.reduceEqDiff, ↓reduceIte, reduceIte, reduceCtorEq, Nat.reduceAdd, Nat.reduceLeDiff, Nat.reduceSub, Int.reduceToNat, byt, Nat.reduceBEq] | with_reducible refine lw_of (fun _ => ?_) | with_reducible exact True.intro | with_reducible refine fin_same ?_ | with_reducible refine fin_loc ?_ ?_ ?_ | with_reducible exact Loc.refl _ | with_reducible refine Loc.push ?_ _ _ | with_reducible refine Loc.set ?_ _ _ (by first | omega | (simp only [push_n, set_n]; omega)) | with_reducible refine And.intro (by omega) ?_)
  refine loop_rule (fun n ρ σ' => σ' = σ ∧ ∃ (i f : Nat) (d : List (List Row)), n = l.length + 1 - i ∧ i ≤ l.length + 1 ∧ f ≤ i ∧ ρ 0 = .sl false (rowsPv l) ∧ ρ 3 = .sl true (d.map partPv) ∧ ρ 4 = .int .i64 f ∧ ρ 5 = .int .i64 i ∧ (∀ j x, f ≤ j → j < i → l[j]? = some x → isMark x = false) ∧ (i = l.length + 1 → f = l.length + 1) ∧ d ++ (tailE l f).map (·.2) = parts l) (fun n ρ σ' hI => ?_) (n := l.length + 1)
    ⟨rfl, 0, 0, [], rfl, by omega, by omega, by simp (maxSteps := 1000000) (disch := omega) only [rb0, rb1, rb2, rb3, rb4, rb5, Od.ev, Ao.dst, Nat.reduceEqDiff, ↓reduceIte, reduceIte, reduceCtorEq, Nat.reduceAdd, Nat.reduceLeDiff, Nat.reduceSub, Int.reduceToNat, byt, Nat.reduceBEq], by simp (maxSteps := 1000000) (disch := omega) only [rb0, rb1, rb2, rb3, rb4, rb5, Od.ev, Ao.dst, Nat.reduceEqDiff, ↓reduceIte, reduceIte, reduceCtorEq, Nat.reduceAdd, Nat.reduceLeDiff, Nat.reduceSub, Int.reduceToNat, byt, Nat.reduceBEq], by simp (maxSteps := 1000000) (disch := omega) only [rb0, rb1, rb2, rb3, rb4, rb5, Od.ev, Ao.dst, Nat.reduceEqDiff, ↓reduceIte, reduceIte, reduceCtorEq, Nat.reduceAdd, Nat.reduceLeDiff, Nat.reduceSub, Int.reduceToNat, byt, Nat.reduceBEq], by simp (maxSteps := 1000000) (disch := omega) only [rb0, rb1, rb2, rb3, rb4, rb5, Od.ev, Ao.dst, Nat.reduceEqDiff, ↓reduceIte, reduceIte, reduceCtorEq, Nat.reduceAdd, Nat.reduceLeDiff, Nat.reduceSub, Int.reduceToNat, byt, Nat.reduceBEq], fun j x a b => by omega, fun h => by omega, by simp [tailE_0, parts]⟩
  obtain ⟨rfl, i, f, d, rfl, hi, hf, h0, h3, h4, h5, hno, hend, hd⟩ := hI
  have hdl : d.length ≤ l.length + 1 := by
    have h1 := congrArg List.length hd
    have h2 := eachN_len (l.length + 1) 0 l
    simp only [List.length_append, List.length_map, parts, eachL] at h1
    omega
  have hw : IntKind.i64.wrap ((i : Int) + 1) = (i : Int) + 1 := wrap64 (by omega)
  repeat' (first | simp (maxSteps := 1000000) (disch := omega) only [rb0, rb1, rb2, rb3, rb4, rb5, Od.ev, Ao.dst, Nat.reduceEqDiff, ↓reduceIte, reduceIte, reduceCtorEq, Nat.reduceAdd, Nat.reduceLeDiff, Nat.reduceSub, Int.reduceToNat, byt, Nat.reduceBEq, h0, h5, rows_size] | with_reducible refine lw_of (fun _ => ?_) | with_reducible exact True.intro | with_reducible refine fin_same ?_ | with_reducible refine fin_loc ?_ ?_ ?_ | with_reducible exact Loc.refl _ | with_reducible refine Loc.push ?_ _ _ | with_reducible refine Loc.set ?_ _ _ (by first | omega | (simp only [push_n, set_n]; omega)) | with_reducible refine And.intro (by omega) ?_)
  refine bw_dec (fun h => ?_) (fun h => ?_)
  · have hil : i ≤ l.length := by omega
    -- the end of a document
    have fin : (i = l.length ∨ ∃ x, l[i]? = some x ∧ isMark x = true) → tailE l f = (if f > 0 || ((l.drop f).take (i - f)).any (fun r => !r.empty) then [(f, (l.drop f).take (i - f))] else []) ++ tailE l (i + 1) := by
      intro hx
      have := tailE_step l f (i - f) (by omega) (mk1_at l f (i - f) (fun j x a b c => hno j x a (by omega) c) (by omega) (by
        rcases hx with hx | ⟨x, h1, h2⟩
        · exact .inl (by omega)
        · exact .inr ⟨x, by rw [show f + (i - f) = i by omega]; exact h1, h2⟩))
      rw [show f + (i - f) + 1 = i + 1 by omega] at this
      exact this
    have hsl : (l.take i).drop f = (l.drop f).take (i - f) := List.drop_take ..
    have hpl := parts_ok d
    have hpo := eq_true hpl
    have nextA : ∀ (hx : i = l.length ∨ ∃ x, l[i]? = some x ∧ isMark x = true), (if f > 0 || ((l.drop f).take (i - f)).any (fun r => !r.empty) then [(f, (l.drop f).take (i - f))] else []) = [(f, (l.drop f).take (i - f))] → (d ++ [(l.drop f).take (i - f)]) ++ (tailE l (i + 1)).map (·.2) = parts l := by
      intro hx he
      rw [← hd, fin hx, he]; simp
    have nextB : ∀ (hx : i = l.length ∨ ∃ x, l[i]? = some x ∧ isMark x = true), (if f > 0 || ((l.drop f).take (i - f)).any (fun r => !r.empty) then [(f, (l.drop f).take (i - f))] else []) = [] → d ++ (tailE l (i + 1)).map (·.2) = parts l := by
      intro hx he
      rw [← hd, fin hx, he]; simp
    clear fin
    by_cases hlt : i < l.length
    · have hk : l[i]? = some l[i] := List.getElem?_eq_getElem hlt
      repeat' (first | simp (maxSteps := 1000000) (disch := omega) only [rb0, rb1, rb2, rb3, rb4, rb5, Od.ev, Ao.dst, Nat.reduceEqDiff, ↓reduceIte, reduceIte, reduceCtorEq, Nat.reduceAdd, Nat.reduceLeDiff, Nat.reduceSub, Int.reduceToNat, byt, Nat.reduceBEq, h0, h5, rows_at, hk, row_cells, hlt, rows_size] | with_reducible refine lw_of (fun _ => ?_) | with_reducible exact True.intro | with_reducible refine fin_same ?_ | with_reducible refine fin_loc ?_ ?_ ?_ | with_reducible exact Loc.refl _ | with_reducible refine Loc.push ?_ _ _ | with_reducible refine Loc.set ?_ _ _ (by first | omega | (simp only [push_n, set_n]; omega)) | with_reducible refine And.intro (by omega) ?_)
      have h58 := k58 (G := G) σ' l[i]
      simp only [Row.pv] at h58
      refine cw_of h58 ?_
      cases hm : isMark l[i] with
      | false =>
        repeat' (first | simp (maxSteps := 1000000) (disch := omega) only [rb0, rb1, rb2, rb3, rb4, rb5, Od.ev, Ao.dst, Nat.reduceEqDiff, ↓reduceIte, reduceIte, reduceCtorEq, Nat.reduceAdd, Nat.reduceLeDiff, Nat.reduceSub, Int.reduceToNat, byt, Nat.reduceBEq, h0, h5, hw] | with_reducible refine lw_of (fun _ => ?_) | with_reducible exact True.intro | with_reducible refine fin_same ?_ | with_reducible refine fin_loc ?_ ?_ ?_ | with_reducible exact Loc.refl _ | with_reducible refine Loc.push ?_ _ _ | with_reducible refine Loc.set ?_ _ _ (by first | omega | (simp only [push_n, set_n]; omega)) | with_reducible refine And.intro (by omega) ?_)
        exact ⟨_, by omega, i + 1, f, d, rfl, by omega, by omega, h3, h4, by omega, (fun j x a b c => by
          by_cases hji : j = i
          · subst hji; rw [hk] at c; cases c; exact hm
          · exact hno j x a (by omega) c), (fun e => by omega), hd⟩
      | true =>
        have hx : i = l.length ∨ ∃ x, l[i]? = some x ∧ isMark x = true := .inr ⟨_, hk, hm⟩
        by_cases hf0 : 0 < f
        · repeat' (first | simp (maxSteps := 1000000) (disch := omega) only [rb0, rb1, rb2, rb3, rb4, rb5, Od.ev, Ao.dst, Nat.reduceEqDiff, ↓reduceIte, reduceIte, reduceCtorEq, Nat.reduceAdd, Nat.reduceLeDiff, Nat.reduceSub, Int.reduceToNat, byt, Nat.reduceBEq, h0, h3, h4, h5, hw, hf0, rows_size, rows_len, rows_take, rows_drop, hsl, byt33, hpo, List.mem_singleton, forall_eq, List.length_map] | with_reducible refine lw_of (fun _ => ?_) | with_reducible exact True.intro | with_reducible refine fin_same ?_ | with_reducible refine fin_loc ?_ ?_ ?_ | with_reducible exact Loc.refl _ | with_reducible refine Loc.push ?_ _ _ | with_reducible refine Loc.set ?_ _ _ (by first | omega | (simp only [push_n, set_n]; omega)) | with_reducible refine And.intro (by omega) ?_)
          exact ⟨_, by omega, i + 1, i + 1, d ++ [(l.drop f).take (i - f)], rfl, by omega, by omega, by simp [partPv], by omega, by omega, (fun j x a b => by omega), (fun e => by omega), nextA hx (by simp [hf0])⟩
        · obtain rfl : f = 0 := by omega
          repeat' (first | simp (maxSteps := 1000000) (disch := omega) only [rb0, rb1, rb2, rb3, rb4, rb5, Od.ev, Ao.dst, Nat.reduceEqDiff, ↓reduceIte, reduceIte, reduceCtorEq, Nat.reduceAdd, Nat.reduceLeDiff, Nat.reduceSub, Int.reduceToNat, byt, Nat.reduceBEq, h0, h3, h4, h5, hw, hf0, rows_size, rows_len, rows_take, rows_drop, hsl, byt33, hpo, List.mem_singleton, forall_eq, List.length_map] | with_reducible refine lw_of (fun _ => ?_) | with_reducible exact True.intro | with_reducible refine fin_same ?_ | with_reducible refine fin_loc ?_ ?_ ?_ | with_reducible exact Loc.refl _ | with_reducible refine Loc.push ?_ _ _ | with_reducible refine Loc.set ?_ _ _ (by first | omega | (simp only [push_n, set_n]; omega)) | with_reducible refine And.intro (by omega) ?_)
          refine cw_of (k59 _ (l.take i)) ?_
          have e0 : (l.drop 0).take (i - 0) = l.take i := by simp
          cases hany : (l.take i).any fun r => !r.empty with
          | true =>
            repeat' (first | simp (maxSteps := 1000000) (disch := omega) only [rb0, rb1, rb2, rb3, rb4, rb5, Od.ev, Ao.dst, Nat.reduceEqDiff, ↓reduceIte, reduceIte, reduceCtorEq, Nat.reduceAdd, Nat.reduceLeDiff, Nat.reduceSub, Int.reduceToNat, byt, Nat.reduceBEq, h0, h3, h4, h5, hw, hf0, rows_size, rows_len, rows_take, rows_drop, hsl, byt33, hpo, List.mem_singleton, forall_eq, List.length_map] | with_reducible refine lw_of (fun _ => ?_) | with_reducible exact True.intro | with_reducible refine fin_same ?_ | with_reducible refine fin_loc ?_ ?_ ?_ | with_reducible exact Loc.refl _ | with_reducible refine Loc.push ?_ _ _ | with_reducible refine Loc.set ?_ _ _ (by first | omega | (simp only [push_n, set_n]; omega)) | with_reducible refine And.intro (by omega) ?_)
            exact ⟨_, by omega, i + 1, i + 1, d ++ [(l.drop 0).take (i - 0)], rfl, by omega, by omega, by simp [partPv], by omega, by omega, (fun j x a b => by omega), (fun e => by omega), nextA hx (by rw [e0, hany]; simp)⟩
          | false =>
            repeat' (first | simp (maxSteps := 1000000) (disch := omega) only [rb0, rb1, rb2, rb3, rb4, rb5, Od.ev, Ao.dst, Nat.reduceEqDiff, ↓reduceIte, reduceIte, reduceCtorEq, Nat.reduceAdd, Nat.reduceLeDiff, Nat.reduceSub, Int.reduceToNat, byt, Nat.reduceBEq, h0, h3, h4, h5, hw, hf0, rows_size, rows_len, rows_take, rows_drop, hsl, byt33, hpo, List.mem_singleton, forall_eq, List.length_map] | with_reducible refine lw_of (fun _ => ?_) | with_reducible exact True.intro | with_reducible refine fin_same ?_ | with_reducible refine fin_loc ?_ ?_ ?_ | with_reducible exact Loc.refl _ | with_reducible refine Loc.push ?_ _ _ | with_reducible refine Loc.set ?_ _ _ (by first | omega | (simp only [push_n, set_n]; omega)) | with_reducible refine And.intro (by omega) ?_)
            exact ⟨_, by omega, i + 1, i + 1, d, rfl, by omega, by omega, rfl, by omega, by omega, (fun j x a b => by omega), (fun e => by omega), nextB hx (by rw [e0, hany]; simp)⟩
    · have hx : i = l.length ∨ ∃ x, l[i]? = some x ∧ isMark x = true := .inl (by omega)
      have hlt' : ¬ ((i : Int) < (l.length : Int)) := by omega
      repeat' (first | simp (maxSteps := 1000000) (disch := omega) only [rb0, rb1, rb2, rb3, rb4, rb5, Od.ev, Ao.dst, Nat.reduceEqDiff, ↓reduceIte, reduceIte, reduceCtorEq, Nat.reduceAdd, Nat.reduceLeDiff, Nat.reduceSub, Int.reduceToNat, byt, Nat.reduceBEq, h0, h5, hlt, hlt', rows_size] | with_reducible refine lw_of (fun _ => ?_) | with_reducible exact True.intro | with_reducible refine fin_same ?_ | with_reducible refine fin_loc ?_ ?_ ?_ | with_reducible exact Loc.refl _ | with_reducible refine Loc.push ?_ _ _ | with_reducible refine Loc.set ?_ _ _ (by first | omega | (simp only [push_n, set_n]; omega)) | with_reducible refine And.intro (by omega) ?_)
      by_cases hf0 : 0 < f
      · repeat' (first | simp (maxSteps := 1000000) (disch := omega) only [rb0, rb1, rb2, rb3, rb4, rb5, Od.ev, Ao.dst, Nat.reduceEqDiff, ↓reduceIte, reduceIte, reduceCtorEq, Nat.reduceAdd, Nat.reduceLeDiff, Nat.reduceSub, Int.reduceToNat, byt, Nat.reduceBEq, h0, h3, h4, h5, hw, hf0, rows_size, rows_len, rows_take, rows_drop, hsl, byt33, hpo, List.mem_singleton, forall_eq, List.length_map] | with_reducible refine lw_of (fun _ => ?_) | with_reducible exact True.intro | with_reducible refine fin_same ?_ | with_reducible refine fin_loc ?_ ?_ ?_ | with_reducible exact Loc.refl _ | with_reducible refine Loc.push ?_ _ _ | with_reducible refine Loc.set ?_ _ _ (by first | omega | (simp only [push_n, set_n]; omega)) | with_reducible refine And.intro (by omega) ?_)
        exact ⟨_, by omega, i + 1, i + 1, d ++ [(l.drop f).take (i - f)], rfl, by omega, by omega, by simp [partPv], by omega, by omega, (fun j x a b => by omega), (fun e => by omega), nextA hx (by simp [hf0])⟩
      · obtain rfl : f = 0 := by omega
        repeat' (first | simp (maxSteps := 1000000) (disch := omega) only [rb0, rb1, rb2, rb3, rb4, rb5, Od.ev, Ao.dst, Nat.reduceEqDiff, ↓reduceIte, reduceIte, reduceCtorEq, Nat.reduceAdd, Nat.reduceLeDiff, Nat.reduceSub, Int.reduceToNat, byt, Nat.reduceBEq, h0, h3, h4, h5, hw, hf0, rows_size, rows_len, rows_take, rows_drop, hsl, byt33, hpo, List.mem_singleton, forall_eq, List.length_map] | with_reducible refine lw_of (fun _ => ?_) | with_reducible exact True.intro | with_reducible refine fin_same ?_ | with_reducible refine fin_loc ?_ ?_ ?_ | with_reducible exact Loc.refl _ | with_reducible refine Loc.push ?_ _ _ | with_reducible refine Loc.set ?_ _ _ (by first | omega | (simp only [push_n, set_n]; omega)) | with_reducible refine And.intro (by omega) ?_)
        refine cw_of (k59 _ (l.take i)) ?_
        have e0 : (l.drop 0).take (i - 0) = l.take i := by simp
        cases hany : (l.take i).any fun r => !r.empty with
        | true =>
          repeat' (first | simp (maxSteps := 1000000) (disch := omega) only [rb0, rb1, rb2, rb3, rb4, rb5, Od.ev, Ao.dst, Nat.reduceEqDiff, ↓reduceIte, reduceIte, reduceCtorEq, Nat.reduceAdd, Nat.reduceLeDiff, Nat.reduceSub, Int.reduceToNat, byt, Nat.reduceBEq, h0, h3, h4, h5, hw, hf0, rows_size, rows_len, rows_take, rows_drop, hsl, byt33, hpo, List.mem_singleton, forall_eq, List.length_map] | with_reducible refine lw_of (fun _ => ?_) | with_reducible exact True.intro | with_reducible refine fin_same ?_ | with_reducible refine fin_loc ?_ ?_ ?_ | with_reducible exact Loc.refl _ | with_reducible refine Loc.push ?_ _ _ | with_reducible refine Loc.set ?_ _ _ (by first | omega | (simp only [push_n, set_n]; omega)) | with_reducible refine And.intro (by omega) ?_)
          exact ⟨_, by omega, i + 1, i + 1, d ++ [(l.drop 0).take (i - 0)], rfl, by omega, by omega, by simp [partPv], by omega, by omega, (fun j x a b => by omega), (fun e => by omega), nextA hx (by rw [e0, hany]; simp)⟩
        | false =>
          repeat' (first | simp (maxSteps := 1000000) (disch := omega) only [rb0, rb1, rb2, rb3, rb4, rb5, Od.ev, Ao.dst, Nat.reduceEqDiff, ↓reduceIte, reduceIte, reduceCtorEq, Nat.reduceAdd, Nat.reduceLeDiff, Nat.reduceSub, Int.reduceToNat, byt, Nat.reduceBEq, h0, h3, h4, h5, hw, hf0, rows_size, rows_len, rows_take, rows_drop, hsl, byt33, hpo, List.mem_singleton, forall_eq, List.length_map] | with_reducible refine lw_of (fun _ => ?_) | with_reducible exact True.intro | with_reducible refine fin_same ?_ | with_reducible refine fin_loc ?_ ?_ ?_ | with_reducible exact Loc.refl _ | with_reducible refine Loc.push ?_ _ _ | with_reducible refine Loc.set ?_ _ _ (by first | omega | (simp only [push_n, set_n]; omega)) | with_reducible refine And.intro (by omega) ?_)
          exact ⟨_, by omega, i + 1, i + 1, d, rfl, by omega, by omega, rfl, by omega, by omega, (fun j x a b => by omega), (fun e => by omega), nextB hx (by rw [e0, hany]; simp)⟩
  · repeat' (first | simp (maxSteps := 1000000) (disch := omega) only [rb0, rb1, rb2, rb3, rb4, rb5, Od.ev, Ao.dst, Nat.reduceEqDiff, ↓reduceIte, reduceIte, reduceCtorEq, Nat.reduceAdd, Nat.reduceLeDiff, Nat.reduceSub, Int.reduceToNat, byt, Nat.reduceBEq, h0, h3, h4, h5] | with_reducible refine lw_of (fun _ => ?_) | with_reducible exact True.intro | with_reducible refine fin_same ?_ | with_reducible refine fin_loc ?_ ?_ ?_ | with_reducible exact Loc.refl _ | with_reducible refine Loc.push ?_ _ _ | with_reducible refine Loc.set ?_ _ _ (by first | omega | (simp only [push_n, set_n]; omega)) | with_reducible refine And.intro (by omega) ?_)
    have : f = l.length + 1 := hend (by omega)
    rw [this] at hd
    rw [← hd]
    simp only [tailE]
    rw [if_neg (by omega)]; simp
end Gx

/- Part K10. -/
/- grommetref02.Same of the same rows. -/
set_option linter.unusedSimpArgs false
set_option linter.unusedVariables false
namespace Gx
open Go Go.Proofs Go.RowKit
variable {G : Nat → Option Obj}
theorem k32 (σ : St) (l : List Row) : ARet Tryz.prog G 32 [.sl false (rowsPv l), .sl false (rowsPv l)] σ (.bool true) σ := by
  refine ret_of has32 (Nat.le_of_ble_eq_true rfl) ?_
  simp only [ir32]
  repeat' (first | simp (maxSteps := 1000000) (disch := omega) only [rb0, rb1, rb2, rb3, rb4, rb5, Od.ev, Ao.dst, Nat.reduceEqDiff, ↓reduceIte, reduceIte, reduceCtorEq, Nat.reduceAdd, Nat.reduceLeDiff, Nat.reduceSub, Int.reduceToNat, byt, Nat.reduceBEq] | with_reducible refine lw_of (fun _ => ?_) | with_reducible exact True.intro | with_reducible refine fin_same ?_ | with_reducible refine fin_loc ?_ ?_ ?_ | with_reducible exact Loc.refl _ | with_reducible refine Loc.push ?_ _ _ | with_reducible refine Loc.set ?_ _ _ (by first | omega | (simp only [push_n, set_n]; omega)) | with_reducible refine And.intro (by omega) ?_)
  refine loop_rule (fun n ρ σ' => σ' = σ ∧ ∃ k : Nat, n = l.length - k ∧ k ≤ l.length ∧ ρ 0 = .sl false (rowsPv l) ∧ ρ 1 = .sl false (rowsPv l) ∧ ρ 5 = .int .i64 k) (fun n ρ σ' hI => ?_) ⟨rfl, 0, rfl, by omega, rfl, rfl, rfl⟩
  obtain ⟨rfl, k, rfl, hle, h0, h1, h5⟩ := hI
  repeat' (first | simp (maxSteps := 1000000) (disch := omega) only [rb0, rb1, rb2, rb3, rb4, rb5, Od.ev, Ao.dst, Nat.reduceEqDiff, ↓reduceIte, reduceIte, reduceCtorEq, Nat.reduceAdd, Nat.reduceLeDiff, Nat.reduceSub, Int.reduceToNat, byt, Nat.reduceBEq, h0, h5, rows_size] | with_reducible refine lw_of (fun _ => ?_) | with_reducible exact True.intro | with_reducible refine fin_same ?_ | with_reducible refine fin_loc ?_ ?_ ?_ | with_reducible exact Loc.refl _ | with_reducible refine Loc.push ?_ _ _ | with_reducible refine Loc.set ?_ _ _ (by first | omega | (simp only [push_n, set_n]; omega)) | with_reducible refine And.intro (by omega) ?_)
  refine bw_dec (fun h => ?_) (fun h => ?_)
  · have hlt : k < l.length := by omega
    have hk : l[k]? = some l[k] := List.getElem?_eq_getElem hlt
    have hw : IntKind.i64.wrap ((k : Int) + 1) = (k : Int) + 1 := wrap64 (by omega)
    repeat' (first | simp (maxSteps := 1000000) (disch := omega) only [rb0, rb1, rb2, rb3, rb4, rb5, Od.ev, Ao.dst, Nat.reduceEqDiff, ↓reduceIte, reduceIte, reduceCtorEq, Nat.reduceAdd, Nat.reduceLeDiff, Nat.reduceSub, Int.reduceToNat, byt, Nat.reduceBEq, h0, h1, h5, rows_at, hk, row_cells, hw, Bool.and_self, bne_self_eq_false] | with_reducible refine lw_of (fun _ => ?_) | with_reducible exact True.intro | with_reducible refine fin_same ?_ | with_reducible refine fin_loc ?_ ?_ ?_ | with_reducible exact Loc.refl _ | with_reducible refine Loc.push ?_ _ _ | with_reducible refine Loc.set ?_ _ _ (by first | omega | (simp only [push_n, set_n]; omega)) | with_reducible refine And.intro (by omega) ?_)
    exact ⟨_, by omega, k + 1, rfl, by omega, by omega⟩
  · repeat' (first | simp (maxSteps := 1000000) (disch := omega) only [rb0, rb1, rb2, rb3, rb4, rb5, Od.ev, Ao.dst, Nat.reduceEqDiff, ↓reduceIte, reduceIte, reduceCtorEq, Nat.reduceAdd, Nat.reduceLeDiff, Nat.reduceSub, Int.reduceToNat, byt, Nat.reduceBEq, h0, h1, h5] | with_reducible refine lw_of (fun _ => ?_) | with_reducible exact True.intro | with_reducible refine fin_same ?_ | with_reducible refine fin_loc ?_ ?_ ?_ | with_reducible exact Loc.refl _ | with_reducible refine Loc.push ?_ _ _ | with_reducible refine Loc.set ?_ _ _ (by first | omega | (simp only [push_n, set_n]; omega)) | with_reducible refine And.intro (by omega) ?_)
end Gx

/- Part M10. -/
/- The law LoadParts. -/
set_option linter.unusedSimpArgs false
set_option linter.unusedVariables false
namespace Gx
open Go Go.Proofs Go.RowKit
variable {G : Nat → Option Obj}
theorem m10 (hal : ∀ σ, ARet Tryz.prog G 16 [] σ (.bool true) σ) (σ : St) (l : List Row) : ARet Tryz.prog G 10 [.sl false (rowsPv l)] σ (.bool true) σ := by
  refine ret_of has10 (Nat.le_of_ble_eq_true rfl) ?_
  simp only [ir10]
  repeat' (first | simp (maxSteps := 1000000) (disch := omega) only [rb0, rb1, rb2, rb3, rb4, rb5, Od.ev, Ao.dst, Nat.reduceEqDiff, ↓reduceIte, reduceIte, reduceCtorEq, Nat.reduceAdd, Nat.reduceLeDiff, Nat.reduceSub, Int.reduceToNat, byt, Nat.reduceBEq, rows_size] | with_reducible refine lw_of (fun _ => ?_) | with_reducible exact True.intro | with_reducible refine fin_same ?_ | with_reducible refine fin_loc ?_ ?_ ?_ | with_reducible exact Loc.refl _ | with_reducible refine Loc.push ?_ _ _ | with_reducible refine Loc.set ?_ _ _ (by first | omega | (simp only [push_n, set_n]; omega)) | with_reducible refine And.intro (by omega) ?_)
  refine bw_dec (fun h => ?_) (fun h => ?_)
  · repeat' (first | simp (maxSteps := 1000000) (disch := omega) only [rb0, rb1, rb2, rb3, rb4, rb5, Od.ev, Ao.dst, Nat.reduceEqDiff, ↓reduceIte, reduceIte, reduceCtorEq, Nat.reduceAdd, Nat.reduceLeDiff, Nat.reduceSub, Int.reduceToNat, byt, Nat.reduceBEq] | with_reducible refine lw_of (fun _ => ?_) | with_reducible exact True.intro | with_reducible refine fin_same ?_ | with_reducible refine fin_loc ?_ ?_ ?_ | with_reducible exact Loc.refl _ | with_reducible refine Loc.push ?_ _ _ | with_reducible refine Loc.set ?_ _ _ (by first | omega | (simp only [push_n, set_n]; omega)) | with_reducible refine And.intro (by omega) ?_ | with_reducible refine cw_of (hal _) ?_)
  · repeat' (first | simp (maxSteps := 1000000) (disch := omega) only [rb0, rb1, rb2, rb3, rb4, rb5, Od.ev, Ao.dst, Nat.reduceEqDiff, ↓reduceIte, reduceIte, reduceCtorEq, Nat.reduceAdd, Nat.reduceLeDiff, Nat.reduceSub, Int.reduceToNat, byt, Nat.reduceBEq, rows_size] | with_reducible refine lw_of (fun _ => ?_) | with_reducible exact True.intro | with_reducible refine fin_same ?_ | with_reducible refine fin_loc ?_ ?_ ?_ | with_reducible exact Loc.refl _ | with_reducible refine Loc.push ?_ _ _ | with_reducible refine Loc.set ?_ _ _ (by first | omega | (simp only [push_n, set_n]; omega)) | with_reducible refine And.intro (by omega) ?_ | with_reducible refine cw_of (k30 _ _ (by omega)) ?_ | with_reducible refine cw_of (k31 _ _ (by omega)) ?_)
    refine loop_rule (fun n ρ σ' => σ' = σ ∧ ∃ k : Nat, n = (parts l).length - k ∧ k ≤ (parts l).length ∧ ρ 3 = .sl false ((parts l).map partPv) ∧ ρ 4 = .sl false ((parts l).map partPv) ∧ ρ 20 = .int .i64 (parts l).length ∧ ρ 21 = .int .i64 k) (fun n ρ σ' hI => ?_) ⟨rfl, 0, rfl, by omega, by simp (maxSteps := 1000000) (disch := omega) only [rb0, rb1, rb2, rb3, rb4, rb5, Od.ev, Ao.dst, Nat.reduceEqDiff, ↓reduceIte, reduceIte, reduceCtorEq, Nat.reduceAdd, Nat.reduceLeDiff, Nat.reduceSub, Int.reduceToNat, byt, Nat.reduceBEq], by simp (maxSteps := 1000000) (disch := omega) only [rb0, rb1, rb2, rb3, rb4, rb5, Od.ev, Ao.dst, Nat.reduceEqDiff, ↓reduceIte, reduceIte, reduceCtorEq, Nat.reduceAdd, Nat.reduceLeDiff, Nat.reduceSub, Int.reduceToNat, byt, Nat.reduceBEq], by simp (maxSteps := 1000000) (disch := omega) only [rb0, rb1, rb2, rb3, rb4, rb5, Od.ev, Ao.dst, Nat.reduceEqDiff, ↓reduceIte, reduceIte, reduceCtorEq, Nat.reduceAdd, Nat.reduceLeDiff, Nat.reduceSub, Int.reduceToNat, byt, Nat.reduceBEq, List.length_map], by simp (maxSteps := 1000000) (disch := omega) only [rb0, rb1, rb2, rb3, rb4, rb5, Od.ev, Ao.dst, Nat.reduceEqDiff, ↓reduceIte, reduceIte, reduceCtorEq, Nat.reduceAdd, Nat.reduceLeDiff, Nat.reduceSub, Int.reduceToNat, byt, Nat.reduceBEq]⟩
    obtain ⟨rfl, k, rfl, hle, h3, h4, h20, h21⟩ := hI
    repeat' (first | simp (maxSteps := 1000000) (disch := omega) only [rb0, rb1, rb2, rb3, rb4, rb5, Od.ev, Ao.dst, Nat.reduceEqDiff, ↓reduceIte, reduceIte, reduceCtorEq, Nat.reduceAdd, Nat.reduceLeDiff, Nat.reduceSub, Int.reduceToNat, byt, Nat.reduceBEq, h20, h21] | with_reducible refine lw_of (fun _ => ?_) | with_reducible exact True.intro | with_reducible refine fin_same ?_ | with_reducible refine fin_loc ?_ ?_ ?_ | with_reducible exact Loc.refl _ | with_reducible refine Loc.push ?_ _ _ | with_reducible refine Loc.set ?_ _ _ (by first | omega | (simp only [push_n, set_n]; omega)) | with_reducible refine And.intro (by omega) ?_)
    refine bw_dec (fun h => ?_) (fun h => ?_)
    · have hlt : k < (parts l).length := by omega
      have hk : ((parts l).map partPv)[k]? = some (partPv (parts l)[k]) := by simp [hlt]
      have hw : IntKind.i64.wrap ((k : Int) + 1) = (k : Int) + 1 := wrap64 (by have := eachN_len (l.length + 1) 0 l; simp only [parts, eachL, List.length_map] at hlt ⊢; omega)
      simp (maxSteps := 1000000) (disch := omega) only [rb0, rb1, rb2, rb3, rb4, rb5, Od.ev, Ao.dst, Nat.reduceEqDiff, ↓reduceIte, reduceIte, reduceCtorEq, Nat.reduceAdd, Nat.reduceLeDiff, Nat.reduceSub, Int.reduceToNat, byt, Nat.reduceBEq, h3, h4, h20, h21, hk, partPv, hw]
      repeat' (with_reducible refine And.intro ?_ ?_)
      all_goals try omega
      all_goals
        refine cw_of (k32 _ _) ?_
        repeat' (first | simp (maxSteps := 1000000) (disch := omega) only [rb0, rb1, rb2, rb3, rb4, rb5, Od.ev, Ao.dst, Nat.reduceEqDiff, ↓reduceIte, reduceIte, reduceCtorEq, Nat.reduceAdd, Nat.reduceLeDiff, Nat.reduceSub, Int.reduceToNat, byt, Nat.reduceBEq, h3, h4, h20, h21, hw] | with_reducible refine lw_of (fun _ => ?_) | with_reducible exact True.intro | with_reducible refine fin_same ?_ | with_reducible refine fin_loc ?_ ?_ ?_ | with_reducible exact Loc.refl _ | with_reducible refine Loc.push ?_ _ _ | with_reducible refine Loc.set ?_ _ _ (by first | omega | (simp only [push_n, set_n]; omega)) | with_reducible refine And.intro (by omega) ?_)
        exact ⟨_, by omega, k + 1, rfl, by omega, by omega⟩
    · repeat' (first | simp (maxSteps := 1000000) (disch := omega) only [rb0, rb1, rb2, rb3, rb4, rb5, Od.ev, Ao.dst, Nat.reduceEqDiff, ↓reduceIte, reduceIte, reduceCtorEq, Nat.reduceAdd, Nat.reduceLeDiff, Nat.reduceSub, Int.reduceToNat, byt, Nat.reduceBEq, h20, h21] | with_reducible refine lw_of (fun _ => ?_) | with_reducible exact True.intro | with_reducible refine fin_same ?_ | with_reducible refine fin_loc ?_ ?_ ?_ | with_reducible exact Loc.refl _ | with_reducible refine Loc.push ?_ _ _ | with_reducible refine Loc.set ?_ _ _ (by first | omega | (simp only [push_n, set_n]; omega)) | with_reducible refine And.intro (by omega) ?_ | with_reducible refine cw_of (hal _) ?_)
end Gx

/- Part L3. -/
/- load.Load. -/
set_option linter.unusedSimpArgs false
set_option linter.unusedVariables false
namespace Gx
open Go Go.Proofs Go.RowKit
variable {G : Nat → Option Obj}
/-- A tree: what it is, its text, its anchor, its kids. -/
def treeOf (k : Int) (t a : List UInt8) (kids : List Pv) : Pv := .agg [.int .i64 k, .str t, .str a, .sl false kids]
theorem body15 (σ : St) (ρ : Env) (b : Nat) (n : Int) (rows : List Pv) (out : List Pv) (h6 : (ρ 6).shr = .ptr b 0) (hk : σ.k = 0) (hm : σ.m b = [.sl true out]) (hro : σ.ro b = false) (hlen : out.length < 64) (hout : ∀ y ∈ out, y.cells.length = 1 ∧ elOk 33 y) :
    YB Tryz.prog G ia15 ib15 [25, 26] ρ [.int .i64 n, .sl false rows] σ (.bool true) (σ.set b [.sl true (out ++ [.sl false rows])]) := by
  refine ⟨hk, rfl, ?_⟩
  simp only [ia15, ib15, parEnv]
  have ho := eq_true hout
  have h64 : ((out.length : Int) = 64) = False := by simp; omega
  repeat' (first | simp (maxSteps := 1000000) (disch := omega) only [rb0, rb1, rb2, rb3, rb4, rb5, Od.ev, Ao.dst, Nat.reduceEqDiff, ↓reduceIte, reduceIte, reduceCtorEq, Nat.reduceAdd, Nat.reduceLeDiff, Nat.reduceSub, Int.reduceToNat, byt, Nat.reduceBEq, h6, hm, hro, ho, QB_nx, List.mem_singleton, forall_eq, List.not_mem_nil, false_implies, implies_true, byt33, List.set_cons_zero, h64] | with_reducible refine lw_of (fun _ => ?_) | with_reducible exact True.intro | with_reducible refine fin_same ?_ | with_reducible refine fin_loc ?_ ?_ ?_ | with_reducible exact Loc.refl _ | with_reducible refine Loc.push ?_ _ _ | with_reducible refine Loc.set ?_ _ _ (by first | omega | (simp only [push_n, set_n]; omega)) | with_reducible refine And.intro (by omega) ?_)
  rw [set_set, ← at_set _ _ _ hk]
/-- The boxes of Load. -/
structure Six (σ0 σ : St) (d rows : Pv) : Prop where
  k : σ.k = 0
  loc : Loc σ0 σ
  n : σ0.n + 6 ≤ σ.n
  m0 : (σ.m σ0.n).length = 1
  m1 : (σ.m (σ0.n + 1)).length = 2
  m2 : σ.m (σ0.n + 2) = [rows]
  m4 : σ.m (σ0.n + 4) = [d]
  m5 : σ.m (σ0.n + 5) = [rows]
  r0 : σ.ro σ0.n = false
  r1 : σ.ro (σ0.n + 1) = false
  r4 : σ.ro (σ0.n + 4) = false
theorem Six.set4 {σ0 σ : St} {d rows : Pv} (h : Six σ0 σ d rows) (d' : Pv) : Six σ0 (σ.set (σ0.n + 4) [d']) d' rows :=
  ⟨h.k, h.loc.set _ _ (by omega), h.n, by simp [St.set, h.m0], by simp [St.set, h.m1], by simp [St.set, h.m2], by simp [St.set], by simp [St.set, h.m5], h.r0, h.r1, h.r4⟩
theorem Six.of_loc {σ0 σ σ' : St} {d rows : Pv} (h : Six σ0 σ d rows) (hl : Loc σ σ') (hk : σ'.k = 0) : Six σ0 σ' d rows := by
  have hn := h.n
  have e : ∀ i, i < 6 → σ'.m (σ0.n + i) = σ.m (σ0.n + i) ∧ σ'.ro (σ0.n + i) = σ.ro (σ0.n + i) := fun i hi => ⟨(hl.2 _ (by omega)).1, (hl.2 _ (by omega)).2.1⟩
  have e0 := e 0 (by omega)
  simp only [Nat.add_zero] at e0
  exact ⟨hk, h.loc.trans hl, by have := hl.1; omega, by rw [e0.1]; exact h.m0, by rw [(e 1 (by omega)).1]; exact h.m1, by rw [(e 2 (by omega)).1]; exact h.m2, by rw [(e 4 (by omega)).1]; exact h.m4, by rw [(e 5 (by omega)).1]; exact h.m5,
    by rw [e0.2]; exact h.r0, by rw [(e 1 (by omega)).2]; exact h.r1, by rw [(e 4 (by omega)).2]; exact h.r4⟩
theorem byt30 : ((30 : Nat) == byt) = false := rfl
theorem k15a {s : List UInt8} {l : List Row} (hread : ∀ σ, ARet Tryz.prog G 38 [.str s] σ (.tup [.sl false (rowsPv l), flt 0 0]) σ) (hs : l.length < 2 ^ 32 - 1) (K : List Row → Int) (T A : List Row → List UInt8) (C : List Row → List Pv)
    (hp : ∀ p ∈ parts l, ∀ σ, ARet Tryz.prog G 20 [partPv p] σ (.tup [treeOf (K p) (T p) (A p) (C p), flt 0 0]) σ) (hC : ∀ n p, cleanL n (C p) = true) (h64 : (parts l).length ≤ 64) (σ : St) :
    ARet Tryz.prog G 15 [.str s] σ (.tup [.sl false ((parts l).map fun p => treeOf (K p) (T p) (A p) (C p)), flt 0 0]) σ := by
  obtain ⟨r, hr⟩ : ∃ r : Pv, r = .tup [.sl false ((parts l).map fun p => treeOf (K p) (T p) (A p) (C p)), flt 0 0] := ⟨_, rfl⟩
  rw [← hr]
  refine aret_marks (Nat.le_of_ble_eq_true rfl) Tryz.func15 (by kernel_rfl) hb15 (by rw [Tryz.ntmps15]; exact er15) (by rw [Tryz.ntmps15]; exact Nat.le_of_ble_eq_true rfl) (fun F g w a hG hA => ?_)
  rw [Tryz.ntmps15] at hA ⊢
  rw [c15_eq]
  refine seq_pl e15_0 (Q := Done r15 σ r σ) (fun e a w _ h => .inl h) hG hA ?_
  simp only [i15_0]
  repeat' (first | simp (maxSteps := 1000000) (disch := omega) only [rb0, rb1, rb2, rb3, rb4, rb5, Od.ev, Ao.dst, Nat.reduceEqDiff, ↓reduceIte, reduceIte, reduceCtorEq, Nat.reduceAdd, Nat.reduceLeDiff, Nat.reduceSub, Int.reduceToNat, byt, Nat.reduceBEq] | with_reducible refine lw_of (fun _ => ?_) | with_reducible exact True.intro | with_reducible refine fin_same ?_ | with_reducible refine fin_loc ?_ ?_ ?_ | with_reducible exact Loc.refl _ | with_reducible refine Loc.push ?_ _ _ | with_reducible refine Loc.set ?_ _ _ (by first | omega | (simp only [push_n, set_n]; omega)) | with_reducible refine And.intro (by omega) ?_)
  intro a1 w1 hA1
  refine seq_pl e15_1 (Q := Done r15 σ r σ) (fun e a w _ h => .inl h) hG hA1 ?_
  simp only [i15_1]
  repeat' (first | simp (maxSteps := 1000000) (disch := omega) only [rb0, rb1, rb2, rb3, rb4, rb5, Od.ev, Ao.dst, Nat.reduceEqDiff, ↓reduceIte, reduceIte, reduceCtorEq, Nat.reduceAdd, Nat.reduceLeDiff, Nat.reduceSub, Int.reduceToNat, byt, Nat.reduceBEq, flt] | with_reducible refine lw_of (fun _ => ?_) | with_reducible exact True.intro | with_reducible refine fin_same ?_ | with_reducible refine fin_loc ?_ ?_ ?_ | with_reducible exact Loc.refl _ | with_reducible refine Loc.push ?_ _ _ | with_reducible refine Loc.set ?_ _ _ (by first | omega | (simp only [push_n, set_n]; omega)) | with_reducible refine And.intro (by omega) ?_ | with_reducible refine cw_of (hread _) ?_)
  intro a2 w2 hA2
  refine seq_pl e15_2 (Q := Done r15 σ r σ) (fun e a w _ h => .inl h) hG hA2 ?_
  simp only [i15_2]
  repeat' (first | simp (maxSteps := 1000000) (disch := omega) only [rb0, rb1, rb2, rb3, rb4, rb5, Od.ev, Ao.dst, Nat.reduceEqDiff, ↓reduceIte, reduceIte, reduceCtorEq, Nat.reduceAdd, Nat.reduceLeDiff, Nat.reduceSub, Int.reduceToNat, byt, Nat.reduceBEq] | with_reducible refine lw_of (fun _ => ?_) | with_reducible exact True.intro | with_reducible refine fin_same ?_ | with_reducible refine fin_loc ?_ ?_ ?_ | with_reducible exact Loc.refl _ | with_reducible refine Loc.push ?_ _ _ | with_reducible refine Loc.set ?_ _ _ (by first | omega | (simp only [push_n, set_n]; omega)) | with_reducible refine And.intro (by omega) ?_)
  intro a3 w3 hA3
  refine seq_pl e15_3 (Q := Done r15 σ r σ) (fun e a w _ h => .inl h) hG hA3 ?_
  simp only [i15_3]
  repeat' (first | simp (maxSteps := 1000000) (disch := omega) only [rb0, rb1, rb2, rb3, rb4, rb5, Od.ev, Ao.dst, Nat.reduceEqDiff, ↓reduceIte, reduceIte, reduceCtorEq, Nat.reduceAdd, Nat.reduceLeDiff, Nat.reduceSub, Int.reduceToNat, byt, Nat.reduceBEq] | with_reducible refine lw_of (fun _ => ?_) | with_reducible exact True.intro | with_reducible refine fin_same ?_ | with_reducible refine fin_loc ?_ ?_ ?_ | with_reducible exact Loc.refl _ | with_reducible refine Loc.push ?_ _ _ | with_reducible refine Loc.set ?_ _ _ (by first | omega | (simp only [push_n, set_n]; omega)) | with_reducible refine And.intro (by omega) ?_)
  intro a4 w4 hA4
  refine wp_seq (seq_pl e15_4 (Q := Done r15 σ r σ) (fun e a w hne h => ?_) hG hA4 ?_)
  · cases e with
    | normal => exact absurd rfl hne
    | _ => exact .inl h
  simp only [i15_4]
  repeat' (first | simp (maxSteps := 1000000) (disch := omega) only [rb0, rb1, rb2, rb3, rb4, rb5, Od.ev, Ao.dst, Nat.reduceEqDiff, ↓reduceIte, reduceIte, reduceCtorEq, Nat.reduceAdd, Nat.reduceLeDiff, Nat.reduceSub, Int.reduceToNat, byt, Nat.reduceBEq] | with_reducible refine lw_of (fun _ => ?_) | with_reducible exact True.intro | with_reducible refine fin_same ?_ | with_reducible refine fin_loc ?_ ?_ ?_ | with_reducible exact Loc.refl _ | with_reducible refine Loc.push ?_ _ _ | with_reducible refine Loc.set ?_ _ _ (by first | omega | (simp only [push_n, set_n]; omega)) | with_reducible refine And.intro (by omega) ?_ | with_reducible refine cw_of (k40 _ _) ?_)
  intro a5 w5 hA5
  obtain ⟨ρ5, σ5, hA5', g2, g3, g6, g24, hS⟩ : ∃ ρ5 σ5, At 63 F g w [] ρ5 σ5 a5 w5 ∧ ρ5 2 = .ptr σ.n 0 ∧ ρ5 3 = .ptr (σ.n + 1) 0 ∧ ρ5 6 = .ptr (σ.n + 4) 0 ∧ ρ5 24 = .clo 68 [] [.ptr (σ.n + 5) 0] ∧ Six σ (σ5.at 0) (.sl true []) (.sl false (rowsPv l)) := by
    refine ⟨_, _, hA5, by simp (maxSteps := 1000000) (disch := omega) only [rb0, rb1, rb2, rb3, rb4, rb5, Od.ev, Ao.dst, Nat.reduceEqDiff, ↓reduceIte, reduceIte, reduceCtorEq, Nat.reduceAdd, Nat.reduceLeDiff, Nat.reduceSub, Int.reduceToNat, byt, Nat.reduceBEq], by simp (maxSteps := 1000000) (disch := omega) only [rb0, rb1, rb2, rb3, rb4, rb5, Od.ev, Ao.dst, Nat.reduceEqDiff, ↓reduceIte, reduceIte, reduceCtorEq, Nat.reduceAdd, Nat.reduceLeDiff, Nat.reduceSub, Int.reduceToNat, byt, Nat.reduceBEq], by simp (maxSteps := 1000000) (disch := omega) only [rb0, rb1, rb2, rb3, rb4, rb5, Od.ev, Ao.dst, Nat.reduceEqDiff, ↓reduceIte, reduceIte, reduceCtorEq, Nat.reduceAdd, Nat.reduceLeDiff, Nat.reduceSub, Int.reduceToNat, byt, Nat.reduceBEq, Nat.add_assoc, Nat.reduceAdd], by simp (maxSteps := 1000000) (disch := omega) only [rb0, rb1, rb2, rb3, rb4, rb5, Od.ev, Ao.dst, Nat.reduceEqDiff, ↓reduceIte, reduceIte, reduceCtorEq, Nat.reduceAdd, Nat.reduceLeDiff, Nat.reduceSub, Int.reduceToNat, byt, Nat.reduceBEq, Nat.add_assoc, Nat.reduceAdd], ?_⟩
    refine ⟨rfl, ?_, by simp [St.at, St.push, St.set, Nat.add_assoc], by simp [St.at, St.push, St.set, Nat.add_assoc], by simp [St.at, St.push, St.set, Nat.add_assoc], by simp [St.at, St.push, St.set, Nat.add_assoc], by simp [St.at, St.push, St.set, Nat.add_assoc], by simp [St.at, St.push, St.set, Nat.add_assoc], by simp [St.at, St.push, St.set, Nat.add_assoc], by simp [St.at, St.push, St.set, Nat.add_assoc], by simp [St.at, St.push, St.set, Nat.add_assoc]⟩
    refine ⟨by simp [St.at, St.push, St.set, Nat.add_assoc], fun b hb => ?_⟩
    have e0 : b ≠ σ.n := by omega
    have e1 : b ≠ σ.n + 1 := by omega
    have e2 : b ≠ σ.n + 1 + 1 := by omega
    have e3 : b ≠ σ.n + 1 + 1 + 1 := by omega
    have e4 : b ≠ σ.n + 1 + 1 + 1 + 1 := by omega
    have e5 : b ≠ σ.n + 1 + 1 + 1 + 1 + 1 := by omega
    simp [St.at, St.push, St.set, e0, e1, e2, e3, e4, e5]
  clear hA hA1 hA2 hA3 hA4 hA5
  refine rf_mid (god := .t 24) rfl ea15 eb15 ez15 na15 nb15 (gf := 68) (caps := [.ptr (σ.n + 5) 0]) g24 (Nat.le_of_ble_eq_true rfl) Tryz.func68 (by kernel_rfl) hbi68 (by rw [Tryz.ntmps68]; exact eci68) (by rw [Tryz.ntmps68]; exact oki68) rfl (by rw [Tryz.ntmps68]; exact Nat.le_of_ble_eq_true rfl)
    (fun lp L hL => ?_) hG hA5' (fun e a w h => .inr h)
  refine it68 (b2 := σ.n + 5) (σ := σ5.at 0) l (by omega)
    (fun d σ' => Six σ σ' (.sl true ((d.map (·.2)).map partPv)) (.sl false (rowsPv l))) (fun _ => False) (fun d σ' h => ⟨h.m5, h.k⟩) (fun _ h => h.elim) (fun d x q σ' h hd => .inl ?_) hS (fun σe h => ?_) lp L hL
  · refine ⟨_, body15 σ' _ (σ.n + 4) _ _ ((d.map (·.2)).map partPv) (by rw [g6]; rfl) h.k h.m4 h.r4 ?_ (parts_ok _), ?_⟩
    · have h1 := congrArg List.length hd
      simp only [List.length_append, List.length_cons, List.length_map, parts] at h1 h64 ⊢
      omega
    · have := h.set4 (.sl true ((d.map (·.2)).map partPv ++ [.sl false (rowsPv x.2)]))
      simpa [partPv] using this
  · replace h : Six σ σe (.sl true (((eachL l).map (·.2)).map partPv)) (.sl false (rowsPv l)) := h.elim (fun h => h) (fun h => h.elim)
    rw [h.k]
    simp only
    rw [q_blk_nx, q_then]
    have hm4 := h.m4
    simp only [iz15, r15]
    repeat' (first | simp (maxSteps := 1000000) (disch := omega) only [rb0, rb1, rb2, rb3, rb4, rb5, Od.ev, Ao.dst, Nat.reduceEqDiff, ↓reduceIte, reduceIte, reduceCtorEq, Nat.reduceAdd, Nat.reduceLeDiff, Nat.reduceSub, Int.reduceToNat, byt, Nat.reduceBEq, g2, g3, g6, hm4, D_rt] | with_reducible refine lw_of (fun _ => ?_) | with_reducible exact True.intro | with_reducible refine fin_same ?_ | with_reducible refine fin_loc ?_ ?_ ?_ | with_reducible exact Loc.refl _ | with_reducible refine Loc.push ?_ _ _ | with_reducible refine Loc.set ?_ _ _ (by first | omega | (simp only [push_n, set_n]; omega)) | with_reducible refine And.intro (by omega) ?_)
    refine loop_rule (fun n ρ σ' => Six σ σ' (.sl true ((parts l).map partPv)) (.sl false (rowsPv l)) ∧ ∃ k : Nat, n = (parts l).length - k ∧ k ≤ (parts l).length ∧ ρ 2 = .ptr σ.n 0 ∧ ρ 3 = .ptr (σ.n + 1) 0 ∧ ρ 9 = .sl true (((parts l).take k).map fun p => treeOf (K p) (T p) (A p) (C p)) ∧ ρ 41 = .sl false ((parts l).map partPv) ∧ ρ 42 = .int .i64 (parts l).length ∧ ρ 43 = .int .i64 k) (fun n ρ σ' hI => ?_)
      ⟨h, 0, rfl, by omega, by simp (maxSteps := 1000000) (disch := omega) only [rb0, rb1, rb2, rb3, rb4, rb5, Od.ev, Ao.dst, Nat.reduceEqDiff, ↓reduceIte, reduceIte, reduceCtorEq, Nat.reduceAdd, Nat.reduceLeDiff, Nat.reduceSub, Int.reduceToNat, byt, Nat.reduceBEq, g2], by simp (maxSteps := 1000000) (disch := omega) only [rb0, rb1, rb2, rb3, rb4, rb5, Od.ev, Ao.dst, Nat.reduceEqDiff, ↓reduceIte, reduceIte, reduceCtorEq, Nat.reduceAdd, Nat.reduceLeDiff, Nat.reduceSub, Int.reduceToNat, byt, Nat.reduceBEq, g3], by simp (maxSteps := 1000000) (disch := omega) only [rb0, rb1, rb2, rb3, rb4, rb5, Od.ev, Ao.dst, Nat.reduceEqDiff, ↓reduceIte, reduceIte, reduceCtorEq, Nat.reduceAdd, Nat.reduceLeDiff, Nat.reduceSub, Int.reduceToNat, byt, Nat.reduceBEq, List.take_zero], by simp (maxSteps := 1000000) (disch := omega) only [rb0, rb1, rb2, rb3, rb4, rb5, Od.ev, Ao.dst, Nat.reduceEqDiff, ↓reduceIte, reduceIte, reduceCtorEq, Nat.reduceAdd, Nat.reduceLeDiff, Nat.reduceSub, Int.reduceToNat, byt, Nat.reduceBEq]; rfl, by simp (maxSteps := 1000000) (disch := omega) only [rb0, rb1, rb2, rb3, rb4, rb5, Od.ev, Ao.dst, Nat.reduceEqDiff, ↓reduceIte, reduceIte, reduceCtorEq, Nat.reduceAdd, Nat.reduceLeDiff, Nat.reduceSub, Int.reduceToNat, byt, Nat.reduceBEq]; simp [parts], by simp (maxSteps := 1000000) (disch := omega) only [rb0, rb1, rb2, rb3, rb4, rb5, Od.ev, Ao.dst, Nat.reduceEqDiff, ↓reduceIte, reduceIte, reduceCtorEq, Nat.reduceAdd, Nat.reduceLeDiff, Nat.reduceSub, Int.reduceToNat, byt, Nat.reduceBEq]⟩
    obtain ⟨hS', k, rfl, hle, e2, e3, e9, e41, e42, e43⟩ := hI
    repeat' (first | simp (maxSteps := 1000000) (disch := omega) only [rb0, rb1, rb2, rb3, rb4, rb5, Od.ev, Ao.dst, Nat.reduceEqDiff, ↓reduceIte, reduceIte, reduceCtorEq, Nat.reduceAdd, Nat.reduceLeDiff, Nat.reduceSub, Int.reduceToNat, byt, Nat.reduceBEq, e42, e43] | with_reducible refine lw_of (fun _ => ?_) | with_reducible exact True.intro | with_reducible refine fin_same ?_ | with_reducible refine fin_loc ?_ ?_ ?_ | with_reducible exact Loc.refl _ | with_reducible refine Loc.push ?_ _ _ | with_reducible refine Loc.set ?_ _ _ (by first | omega | (simp only [push_n, set_n]; omega)) | with_reducible refine And.intro (by omega) ?_)
    refine bw_dec (fun hlt => ?_) (fun hlt => ?_)
    · have hlt : k < (parts l).length := by omega
      have hk : ((parts l).map partPv)[k]? = some (partPv (parts l)[k]) := by simp [hlt]
      have hw : IntKind.i64.wrap ((k : Int) + 1) = (k : Int) + 1 := wrap64 (by omega)
      have h20 := hp (parts l)[k] (List.getElem_mem hlt) σ'
      simp only [partPv] at h20
      repeat' (first | simp (maxSteps := 1000000) (disch := omega) only [rb0, rb1, rb2, rb3, rb4, rb5, Od.ev, Ao.dst, Nat.reduceEqDiff, ↓reduceIte, reduceIte, reduceCtorEq, Nat.reduceAdd, Nat.reduceLeDiff, Nat.reduceSub, Int.reduceToNat, byt, Nat.reduceBEq, e41, e43, hk, partPv] | with_reducible refine lw_of (fun _ => ?_) | with_reducible exact True.intro | with_reducible refine fin_same ?_ | with_reducible refine fin_loc ?_ ?_ ?_ | with_reducible exact Loc.refl _ | with_reducible refine Loc.push ?_ _ _ | with_reducible refine Loc.set ?_ _ _ (by first | omega | (simp only [push_n, set_n]; omega)) | with_reducible refine And.intro (by omega) ?_)
      refine cw_of h20 ?_
      simp (maxSteps := 1000000) (disch := omega) only [rb0, rb1, rb2, rb3, rb4, rb5, Od.ev, Ao.dst, Nat.reduceEqDiff, ↓reduceIte, reduceIte, reduceCtorEq, Nat.reduceAdd, Nat.reduceLeDiff, Nat.reduceSub, Int.reduceToNat, byt, Nat.reduceBEq, e2, e3, e9, e41, e42, e43, treeOf, flt, hw, byt30, List.mem_singleton, forall_eq, List.not_mem_nil, false_implies, implies_true, List.length_map, List.length_take]
      refine ⟨by omega, fun y hy => ?_, _, by omega, hS'.of_loc ((((Loc.refl σ').push _ _).push _ _).set _ _ (Nat.le_refl _) |>.set _ _ (by omega)) hS'.k, k + 1, rfl, by omega, ?_, by omega⟩
      · obtain ⟨p, _, rfl⟩ := List.mem_map.1 hy
        exact ⟨rfl, by simp [elOk, Pv.isU8, byt30]⟩
      · rw [← List.take_append_getElem hlt, List.map_append]
        rfl
    · have z0 := hS'.m0
      have z1 := hS'.m1
      have z2 := hS'.r0
      have z3 := hS'.r1
      repeat' (first | simp (maxSteps := 1000000) (disch := omega) only [rb0, rb1, rb2, rb3, rb4, rb5, Od.ev, Ao.dst, Nat.reduceEqDiff, ↓reduceIte, reduceIte, reduceCtorEq, Nat.reduceAdd, Nat.reduceLeDiff, Nat.reduceSub, Int.reduceToNat, byt, Nat.reduceBEq, e2, e3, e9, z0, z1, z2, z3, D_rt] | with_reducible refine lw_of (fun _ => ?_) | with_reducible exact True.intro | with_reducible refine fin_same ?_ | with_reducible refine fin_loc ?_ ?_ ?_ | with_reducible exact Loc.refl _ | with_reducible refine Loc.push ?_ _ _ | with_reducible refine Loc.set ?_ _ _ (by first | omega | (simp only [push_n, set_n]; omega)) | with_reducible refine And.intro (by omega) ?_)
      all_goals first
        | exact hS'.loc
        | (rw [hr]; simp only [clean, cleanL, Bool.and_true, flt, Bool.and_eq_true, and_true]; rw [cleanL_iff]; intro x hx; obtain ⟨p, _, rfl⟩ := List.mem_map.1 hx; simp [treeOf, clean, cleanL, hC])
        | (rw [hr, List.take_of_length_le (by omega)]; simp (maxSteps := 1000000) (disch := omega) only [rb0, rb1, rb2, rb3, rb4, rb5, Od.ev, Ao.dst, Nat.reduceEqDiff, ↓reduceIte, reduceIte, reduceCtorEq, Nat.reduceAdd, Nat.reduceLeDiff, Nat.reduceSub, Int.reduceToNat, byt, Nat.reduceBEq, flt])
end Gx

/- Part K5. -/
/- Go's strings.Trim at an ASCII cutset. -/
set_option linter.unusedSimpArgs false
set_option linter.unusedVariables false
namespace Gx
open Go Go.Proofs Go.RowKit
variable {G : Nat → Option Obj}

def ascii (cs : List UInt8) : Prop := ∀ b ∈ cs, b.toNat < 128
theorem ba_eq {s : ByteArray} {l : List UInt8} (h : s.data.toList = l) : s = ⟨l.toArray⟩ := by
  cases s with | mk d => simp only at h; subst h; simp
theorem trimRightS_len (l cs : List UInt8) : (Lib.trimRightS l cs).length ≤ l.length := by
  unfold Lib.trimRightS
  have := (List.dropWhile_suffix (cs.contains ·) (l := l.reverse)).length_le
  simpa using this
theorem trimLeftS_len (l cs : List UInt8) : (Lib.trimLeftS l cs).length ≤ l.length := (List.dropWhile_suffix _).length_le
theorem k150 (σ : St) (s cs : List UInt8) (hc : cs.length < 100) (ha : ascii cs) : ARet Tryz.prog G 150 [.str s, .str cs] σ (.str (Lib.trimS s cs)) σ := by
  refine aret_str2 (ent Tryz.func150 (by kernel_rfl)) fun g w s' t' hG hs hl ht hm => ?_
  obtain rfl := ba_eq hs
  obtain rfl := ba_eq ht
  have hz : ∀ l : List UInt8, (⟨l.toArray⟩ : ByteArray).size = l.length := fun l => by simp [ByteArray.size]
  refine (Any.strings_Trim_laid Tryz.slays160 (by kernel_rfl) ⟨s.toArray⟩ ⟨cs.toArray⟩ w (by rw [hz]; omega) (by rw [hz]; omega) (fun j b hj => ha b (List.mem_of_getElem? (by simpa using hj)))).mono ?_
  rintro e w' ⟨rfl, hB⟩
  have h1 := trimRightS_len s cs
  have h2 := trimLeftS_len (Lib.trimRightS s cs) cs
  refine ⟨_, rfl, hB, ?_⟩
  have : (Lib.trimS s cs).length ≤ s.length := by
    unfold Lib.trimS
    first
      | exact Nat.le_trans h2 h1
      | exact Nat.le_trans (trimRightS_len _ _) (trimLeftS_len _ _)
  simpa using R.mkstr (g := g) (w := w') (l := Lib.trimS s cs) (by omega)
theorem k65s (σ : St) (s cs : List UInt8) (hc : cs.length < 100) (ha : ascii cs) : ARet Tryz.prog G 65 [.str s, .str cs] σ (.str (trimR (cs.contains ·) s)) σ := by
  refine aret_str2 (ent Tryz.func65 (by kernel_rfl)) fun g w s' t' hG hs hl ht hm => ?_
  obtain rfl := ba_eq hs
  obtain rfl := ba_eq ht
  have hz : ∀ l : List UInt8, (⟨l.toArray⟩ : ByteArray).size = l.length := fun l => by simp [ByteArray.size]
  refine (Any.strings_TrimRight_laid Tryz.slays162 (by kernel_rfl) ⟨s.toArray⟩ ⟨cs.toArray⟩ w (by rw [hz]; omega) (by rw [hz]; omega) (fun j b hj => ha b (List.mem_of_getElem? (by simpa using hj)))).mono ?_
  rintro e w' ⟨rfl, hB⟩
  have h1 := trimRightS_len s cs
  refine ⟨_, rfl, hB, ?_⟩
  have h := R.mkstr (g := g) (w := w') (l := Lib.trimRightS s cs) (by omega)
  simpa [trimR, Lib.trimRightS] using h
end Gx

/- Part Pm. -/
/- Rules of the evaluator: library functions behind their contracts. -/
set_option linter.unusedSimpArgs false
set_option linter.unusedVariables false
namespace Gx
open Go Go.Proofs Go.RowKit
variable {G : Nat → Option Obj}
def isB8 (n : Int) : Bool := decide (0 ≤ n) && decide (n < 256)
theorem b8 {n : Int} (h : isB8 n = true) : ((UInt8.ofNat n.toNat).toNat : Int) = n := by
  simp only [isB8, Bool.and_eq_true, decide_eq_true_eq] at h
  have : (UInt8.ofNat n.toNat).toNat = n.toNat % 256 := by simp
  rw [this]; omega
def isAsc (cs : List UInt8) : Bool := decide (cs.length < 100) && cs.all fun c => decide (c.toNat < 128)
theorem asc {cs : List UInt8} (h : isAsc cs = true) : cs.length < 100 ∧ ascii cs := by
  simp only [isAsc, Bool.and_eq_true, decide_eq_true_eq, List.all_eq_true] at h
  exact h
abbrev PrF := List Pv → Bx → Option (Pv × Bx)
def p62 : PrF := fun a s => match a with
  | [.str t] => if t.length < 4294967296 then some (.sl false ((lines t).map .str), s) else none
  | _ => none
theorem q62 (a : List Pv) (s : Bx) (r : Pv) (s' : Bx) (h : p62 a s = some (r, s')) : ARet Tryz.prog G 62 a (toSt s) r (toSt s') := by
  unfold p62 at h
  split at h
  · split at h
    · rename_i hl; cases h; exact k62 _ _ (by omega)
    · cases h
  · cases h
def p64 : PrF := fun a s => match a with
  | [.str t, .int .u8 n] => if isB8 n = true then some (.int .i64 (Lib.indexByte t (UInt8.ofNat n.toNat)), s) else none
  | _ => none
theorem q64 (a : List Pv) (s : Bx) (r : Pv) (s' : Bx) (h : p64 a s = some (r, s')) : ARet Tryz.prog G 64 a (toSt s) r (toSt s') := by
  unfold p64 at h
  split at h
  · rename_i t n
    split at h
    · rename_i hl
      cases h
      have := k64 (G := G) (toSt s) t (UInt8.ofNat n.toNat)
      rw [b8 hl] at this
      exact this
    · cases h
  · cases h
def p233 : PrF := fun a s => match a with
  | [.str t, .str [c]] => some (.int .i64 (Lib.indexByte t c), s)
  | _ => none
theorem q233 (a : List Pv) (s : Bx) (r : Pv) (s' : Bx) (h : p233 a s = some (r, s')) : ARet Tryz.prog G 233 a (toSt s) r (toSt s') := by
  unfold p233 at h
  split at h
  · cases h; exact k233 _ _ _
  · cases h
theorem dec_asc (c : UInt8) (cs : List UInt8) (h : c.toNat < 128) : dec (c :: cs) = (c.toNat, 1) := by
  have hs : (⟨(c :: cs).toArray⟩ : ByteArray).size = cs.length + 1 := by simp [ByteArray.size]
  have h0 : (⟨(c :: cs).toArray⟩ : ByteArray).get! 0 = c := by simp [ByteArray.get!]
  unfold dec Lib.decodeGo
  rw [if_neg (by rw [hs]; omega), Lib.decode_at, h0]
  simp only [Lib.decodeN, if_pos h]
def p145 : PrF := fun a s => match a with
  | [.str (c :: cs)] => if c.toNat < 128 then some (.tup [.int .i32 c.toNat, .int .i64 1], s) else none
  | _ => none
theorem q145 [Laid G] (a : List Pv) (s : Bx) (r : Pv) (s' : Bx) (h : p145 a s = some (r, s')) : ARet Tryz.prog G 145 a (toSt s) r (toSt s') := by
  unfold p145 at h
  split at h
  · rename_i c cs
    split at h
    · rename_i hl
      cases h
      have := k145 (G := G) (toSt s) (c :: cs)
      rw [dec_asc c cs hl] at this
      exact this
    · cases h
  · cases h
def p150 : PrF := fun a s => match a with
  | [.str t, .str cs] => if isAsc cs = true then some (.str (Lib.trimS t cs), s) else none
  | _ => none
theorem q150 (a : List Pv) (s : Bx) (r : Pv) (s' : Bx) (h : p150 a s = some (r, s')) : ARet Tryz.prog G 150 a (toSt s) r (toSt s') := by
  unfold p150 at h
  split at h
  · split at h
    · rename_i hl; cases h; exact k150 _ _ _ (asc hl).1 (asc hl).2
    · cases h
  · cases h
def p65 : PrF := fun a s => match a with
  | [.str t, .str cs] => if isAsc cs = true then some (.str (trimR (cs.contains ·) t), s) else none
  | _ => none
theorem q65 (a : List Pv) (s : Bx) (r : Pv) (s' : Bx) (h : p65 a s = some (r, s')) : ARet Tryz.prog G 65 a (toSt s) r (toSt s') := by
  unfold p65 at h
  split at h
  · split at h
    · rename_i hl; cases h; exact k65s _ _ _ (asc hl).1 (asc hl).2
    · cases h
  · cases h
def p149 : PrF := fun a s => match a with
  | [.str t] => if t.length ≤ 281474976710656 then some (numR t, s) else none
  | _ => none
theorem q149 [Laid G] [Errs G] (a : List Pv) (s : Bx) (r : Pv) (s' : Bx) (h : p149 a s = some (r, s')) : ARet Tryz.prog G 149 a (toSt s) r (toSt s') := by
  unfold p149 at h
  split at h
  · split at h
    · rename_i hl; cases h; exact k149 _ _ hl
    · cases h
  · cases h
end Gx

/- Part Tb. -/
set_option maxRecDepth 10000
namespace Gx
open Go Go.Proofs Gx
variable {G : Nat → Option Obj}
def tbA : BT := (.node 132 (.code ir132) (.node 87 (.code ir87) (.node 63 (.code ir63) (.node 43 (.code ir43) (.node 24 (.code ir24) (.node 20 (.code ir20) (.node 17 (.code ir17) .nil .nil) (.node 22 (.code ir22) .nil .nil)) (.node 38 (.code ir38) (.node 29 (.code ir29) .nil .nil) .nil)) (.node 49 (.code ir49) (.node 47 (.code ir47) (.node 46 (.code ir46) .nil .nil) .nil) (.node 62 (.prim p62) (.node 57 (.code ir57) .nil .nil) .nil))) (.node 76 (.code ir76) (.node 67 (.code ir67) (.node 65 (.prim p65) (.node 64 (.prim p64) .nil .nil) (.node 66 (.code ir66) .nil .nil)) (.node 75 (.code ir75) (.node 69 (.code ir69) .nil .nil) .nil)) (.node 79 (.code ir79) (.node 78 (.code ir78) (.node 77 (.code ir77) .nil .nil) .nil) (.node 86 (.code ir86) (.node 80 (.code ir80) .nil .nil) .nil)))) (.node 118 (.code ir118) (.node 103 (.code ir103) (.node 92 (.code ir92) (.node 90 (.code ir90) (.node 89 (.code ir89) .nil .nil) (.node 91 (.code ir91) .nil .nil)) (.node 94 (.code ir94) (.node 93 (.code ir93) .nil .nil) .nil)) (.node 111 (.code ir111) (.node 105 (.code ir105) (.node 104 (.code ir104) .nil .nil) .nil) (.node 113 (.code ir113) (.node 112 (.code ir112) .nil .nil) .nil))) (.node 126 (.code ir126) (.node 121 (.code ir121) (.node 120 (.code ir120) (.node 119 (.code ir119) .nil .nil) .nil) (.node 125 (.code ir125) (.node 122 (.code ir122) .nil .nil) .nil)) (.node 129 (.code ir129) (.node 128 (.code ir128) (.node 127 (.code ir127) .nil .nil) .nil) (.node 131 (.code ir131) (.node 130 (.code ir130) .nil .nil) .nil))))) (.node 186 (.code ir186) (.node 169 (.code ir169) (.node 149 (.prim p149) (.node 146 (.code ir146) (.node 134 (.code ir134) (.node 133 (.code ir133) .nil .nil) (.node 145 (.prim p145) .nil .nil)) (.node 148 (.code ir148) (.node 147 (.code ir147) .nil .nil) .nil)) (.node 161 (.code ir161) (.node 151 (.code ir151) (.node 150 (.prim p150) .nil .nil) .nil) (.node 168 (.code ir168) (.node 165 (.code ir165) .nil .nil) .nil))) (.node 176 (.code ir176) (.node 173 (.code ir173) (.node 171 (.code ir171) (.node 170 (.code ir170) .nil .nil) (.node 172 (.code ir172) .nil .nil)) (.node 175 (.code ir175) (.node 174 (.code ir174) .nil .nil) .nil)) (.node 182 (.code ir182) (.node 178 (.code ir178) (.node 177 (.code ir177) .nil .nil) .nil) (.node 184 (.code ir184) (.node 183 (.code ir183) .nil .nil) .nil)))) (.node 218 (.code ir218) (.node 207 (.code ir207) (.node 200 (.code ir200) (.node 198 (.code ir198) (.node 197 (.code ir197) .nil .nil) (.node 199 (.code ir199) .nil .nil)) (.node 204 (.code ir204) (.node 201 (.code ir201) .nil .nil) .nil)) (.node 212 (.code ir212) (.node 209 (.code ir209) (.node 208 (.code ir208) .nil .nil) .nil) (.node 217 (.code ir217) (.node 216 (.code ir216) .nil .nil) .nil))) (.node 233 (.prim p233) (.node 225 (.code ir225) (.node 224 (.code ir224) (.node 221 (.code ir221) .nil .nil) .nil) (.node 230 (.code ir230) (.node 229 (.code ir229) .nil .nil) .nil)) (.node 261 (.code ir261) (.node 248 (.code ir248) (.node 247 (.code ir247) .nil .nil) .nil) (.node 263 (.code ir263) (.node 262 (.code ir262) .nil .nil) .nil))))))
theorem tbA_ok [Laid G] [Errs G] : tbA.Ok Tryz.prog G := ⟨has132, ⟨has87, ⟨has63, ⟨has43, ⟨has24, ⟨has20, ⟨has17, trivial, trivial⟩, ⟨has22, trivial, trivial⟩⟩, ⟨has38, ⟨has29, trivial, trivial⟩, trivial⟩⟩, ⟨has49, ⟨has47, ⟨has46, trivial, trivial⟩, trivial⟩, ⟨q62, ⟨has57, trivial, trivial⟩, trivial⟩⟩⟩, ⟨has76, ⟨has67, ⟨q65, ⟨q64, trivial, trivial⟩, ⟨has66, trivial, trivial⟩⟩, ⟨has75, ⟨has69, trivial, trivial⟩, trivial⟩⟩, ⟨has79, ⟨has78, ⟨has77, trivial, trivial⟩, trivial⟩, ⟨has86, ⟨has80, trivial, trivial⟩, trivial⟩⟩⟩⟩, ⟨has118, ⟨has103, ⟨has92, ⟨has90, ⟨has89, trivial, trivial⟩, ⟨has91, trivial, trivial⟩⟩, ⟨has94, ⟨has93, trivial, trivial⟩, trivial⟩⟩, ⟨has111, ⟨has105, ⟨has104, trivial, trivial⟩, trivial⟩, ⟨has113, ⟨has112, trivial, trivial⟩, trivial⟩⟩⟩, ⟨has126, ⟨has121, ⟨has120, ⟨has119, trivial, trivial⟩, trivial⟩, ⟨has125, ⟨has122, trivial, trivial⟩, trivial⟩⟩, ⟨has129, ⟨has128, ⟨has127, trivial, trivial⟩, trivial⟩, ⟨has131, ⟨has130, trivial, trivial⟩, trivial⟩⟩⟩⟩⟩, ⟨has186, ⟨has169, ⟨q149, ⟨has146, ⟨has134, ⟨has133, trivial, trivial⟩, ⟨q145, trivial, trivial⟩⟩, ⟨has148, ⟨has147, trivial, trivial⟩, trivial⟩⟩, ⟨has161, ⟨has151, ⟨q150, trivial, trivial⟩, trivial⟩, ⟨has168, ⟨has165, trivial, trivial⟩, trivial⟩⟩⟩, ⟨has176, ⟨has173, ⟨has171, ⟨has170, trivial, trivial⟩, ⟨has172, trivial, trivial⟩⟩, ⟨has175, ⟨has174, trivial, trivial⟩, trivial⟩⟩, ⟨has182, ⟨has178, ⟨has177, trivial, trivial⟩, trivial⟩, ⟨has184, ⟨has183, trivial, trivial⟩, trivial⟩⟩⟩⟩, ⟨has218, ⟨has207, ⟨has200, ⟨has198, ⟨has197, trivial, trivial⟩, ⟨has199, trivial, trivial⟩⟩, ⟨has204, ⟨has201, trivial, trivial⟩, trivial⟩⟩, ⟨has212, ⟨has209, ⟨has208, trivial, trivial⟩, trivial⟩, ⟨has217, ⟨has216, trivial, trivial⟩, trivial⟩⟩⟩, ⟨q233, ⟨has225, ⟨has224, ⟨has221, trivial, trivial⟩, trivial⟩, ⟨has230, ⟨has229, trivial, trivial⟩, trivial⟩⟩, ⟨has261, ⟨has248, ⟨has247, trivial, trivial⟩, trivial⟩, ⟨has263, ⟨has262, trivial, trivial⟩, trivial⟩⟩⟩⟩⟩⟩
end Gx

/- Part Ev1. -/
namespace Gx
open Go Go.Proofs Gx
set_option maxRecDepth 100000
theorem evA0 : callE tbA 500 100 38 [.str [97, 10, 45, 45, 45, 10, 98, 58, 32, 53, 10]] [] = some (.tup [.sl false [.agg [.int .i64 0, .str [97], .int .i64 1], .agg [.int .i64 0, .str [45, 45, 45], .int .i64 2], .agg [.int .i64 0, .str [98, 58, 32, 53], .int .i64 3]], .agg [.int .i64 0, .int .i64 0]], []) := by kernel_rfl
theorem evA1 : callE tbA 500 100 20 [.sl false [.agg [.int .i64 0, .str [97], .int .i64 1]]] [] = some (.tup [.agg [.int .i64 4, .str [97], .str [], .sl false []], .agg [.int .i64 0, .int .i64 0]], []) := by kernel_rfl
theorem evA3 : callE tbA 500 100 20 [.sl false []] [] = some (.tup [.agg [.int .i64 1, .str [], .str [], .sl false []], .agg [.int .i64 0, .int .i64 0]], []) := by kernel_rfl
end Gx

/- Part Ev2. -/
namespace Gx
open Go Go.Proofs Gx
set_option maxRecDepth 100000
theorem evA2 : callE tbA 500 100 20 [.sl false [.agg [.int .i64 0, .str [98, 58, 32, 53], .int .i64 3]]] [] = some (.tup [.agg [.int .i64 6, .str [], .str [], .sl false [.agg [.int .i64 4, .str [98], .str [], .sl false []], .agg [.int .i64 3, .str [53], .str [], .sl false []]]], .agg [.int .i64 0, .int .i64 0]], []) := by kernel_rfl
end Gx

/- Part A16. -/
/- grommetlaw11's alive. -/
set_option linter.unusedSimpArgs false
set_option linter.unusedVariables false
namespace Gx
open Go Go.Proofs Go.RowKit
variable {G : Nat → Option Obj}
def r16 : List Row := [⟨0, [97], 1⟩, ⟨0, [45, 45, 45], 2⟩, ⟨0, [98, 58, 32, 53], 3⟩]
theorem parts16 : parts r16 = [[⟨0, [97], 1⟩], [⟨0, [98, 58, 32, 53], 3⟩]] := by kernel_rfl
def first16 (p : List Row) : Bool := match p with
  | r :: _ => decide (r.at_ = 1)
  | [] => false
theorem m16 [Laid G] [Errs G] (σ : St) : ARet Tryz.prog G 16 [] σ (.bool true) σ := by
  have h15 := k15a (G := G) (s := [97, 10, 45, 45, 45, 10, 98, 58, 32, 53, 10]) (l := r16) (fun σ => aret_frame (aret_run tbA_ok 500 100 evA0) rfl rfl rfl rfl σ) (by simp [r16])
    (fun p => if first16 p then 4 else 6) (fun p => if first16 p then [97] else []) (fun _ => []) (fun p => if first16 p then [] else [.agg [.int .i64 4, .str [98], .str [], .sl false []], .agg [.int .i64 3, .str [53], .str [], .sl false []]])
    (fun p hp σ => by
      rw [parts16] at hp
      simp only [List.mem_cons, List.not_mem_nil, or_false] at hp
      rcases hp with rfl | rfl
      · exact aret_frame (aret_run tbA_ok 500 100 evA1) rfl rfl rfl rfl σ
      · exact aret_frame (aret_run tbA_ok 500 100 evA2) rfl rfl rfl rfl σ)
    (fun n p => by split <;> rfl) (by rw [parts16]; simp)
  rw [parts16] at h15
  refine ret_of has16 (Nat.le_of_ble_eq_true rfl) ?_
  simp only [ir16]
  simp (maxSteps := 1000000) (disch := omega) only [rb0, rb1, rb2, rb3, rb4, rb5, Od.ev, Ao.dst, Nat.reduceEqDiff, ↓reduceIte, reduceIte, reduceCtorEq, Nat.reduceAdd, Nat.reduceLeDiff, Nat.reduceSub, Int.reduceToNat, byt, Nat.reduceBEq]
  refine cw_of (h15 _) ?_
  simp only [flt, treeOf, first16, List.map_cons, List.map_nil, decide_true, if_true]
  repeat' (first | simp (maxSteps := 1000000) (disch := omega) only [rb0, rb1, rb2, rb3, rb4, rb5, Od.ev, Ao.dst, Nat.reduceEqDiff, ↓reduceIte, reduceIte, reduceCtorEq, Nat.reduceAdd, Nat.reduceLeDiff, Nat.reduceSub, Int.reduceToNat, byt, Nat.reduceBEq] | with_reducible refine lw_of (fun _ => ?_) | with_reducible exact True.intro | with_reducible refine fin_same ?_ | with_reducible refine fin_loc ?_ ?_ ?_ | with_reducible exact Loc.refl _ | with_reducible refine Loc.push ?_ _ _ | with_reducible refine Loc.set ?_ _ _ (by first | omega | (simp only [push_n, set_n]; omega)) | with_reducible refine And.intro (by omega) ?_)
  trace_state
end Gx

/- Part Ad3. -/
/- The rows of any documents. -/
set_option linter.unusedSimpArgs false
set_option linter.unusedVariables false
namespace Gx
open Go Go.Proofs Go.RowKit Go.ChangeShapes Go.WideShapes Go.Lib
open Go.Proofs.YtgbkgdhnfjndgaaGreatDoor

theorem own : ownKnob Tryz.prog.godebug = none := by kernel_rfl
theorem types33 : Tryz.prog.readableRec 33 = true ∧ 33 < Tryz.prog.types.size := ⟨by kernel_rfl, of_decide_eq_true (by kernel_rfl)⟩
theorem bytes48 : Tryz.prog.bytesOf 48 = 32 := by kernel_rfl

set_option maxRecDepth 100000 in
theorem contract10 (H : Type) (enc : TypeId × Value → H) (W : World) (base : Nat) (args : Array Value) (ds gs : List (DataW H)) (before : List MemPlace)
    (hval : ∀ (j : Nat) t v, Tryz.f10.params[j]? = some t → args[j]? = some v → Value.okWide Tryz.prog W .any base t v)
    (hW : DataW.Whole enc Tryz.prog Tryz.f10.params.toList Rows.loadPartsSpec.vars false W args.toList ds gs before)
    (hsz : (DataW.weightsEach Tryz.prog (Tryz.f10.params.toList ++ Rows.loadPartsSpec.plain.varTypes Tryz.prog) (ds ++ gs)).all (· ≤ reachBytes) = true)
    (hL : laidMetH Tryz.prog Rows.loadPartsRow.laid W) :
    Calls Tryz.prog 10 args W fun e W' => ∃ v, e = .returned v ∧ Rows.loadPartsSpec.post enc Tryz.prog Tryz.f10 false true false false W args v W' := by
  have hW' := hW
  obtain ⟨p, q, hA0, hV, rfl, hfz, hnd⟩ := hW
  have hA : DataW.TrodAll enc Tryz.prog W 0 (fun _ => true) true Tryz.f10.params.toList args.toList ds p := hA0
  rw [Tryz.params10] at hA hval hsz
  obtain ⟨v0, vs0, d0, ds0, p0, q0, hargs, rfl, rfl, h0, r0⟩ := trodAll_cons hA
  obtain ⟨rfl, rfl, rfl⟩ := trodAll_nil r0
  obtain rfl : args = #[v0] := by cases args; simp_all
  obtain ⟨rfl, rfl⟩ := trodVars_none hV
  have hok := hval 0 33 v0 rfl rfl
  obtain ⟨l, hR⟩ := rows_R hok h0 (fun e s hd => by
    subst hd
    have := sized_slice hsz (j := 0) (t := 33) (e := 48) (elems := e) (spare := s) rfl rfl Tryz.underlying33
    have h2 := reachBytes_lt
    rw [bytes48] at this
    omega)
  have hT := tabs_of hL
  haveI := laid_gw hT
  haveI := errs_gw hT
  refine (calls_of_aret (m10 (G := gG W) (fun σ => m16 σ) (toSt []) l) (gl_gz W) (vs := #[v0]) rfl (fun t ht => ?_)).mono ?_
  · obtain rfl : t = 0 := by simpa using ht
    exact .sh hR
  · rintro e W' ⟨v, rfl, hB, g', hr⟩
    obtain rfl : v = .bool true := by cases hr; rfl
    exact ⟨_, rfl, post_law hW' rfl (by kernel_rfl) rfl (by rw [Tryz.params10]; intro t ht; obtain rfl : t = 33 := (by simpa using ht); exact types33) hB⟩
end Gx

/- Part Ad4. -/
/- The witness and the card of the law. -/
set_option linter.unusedSimpArgs false
set_option linter.unusedVariables false
namespace Gx
open Go Go.Proofs Go.RowKit Go.ChangeShapes Go.WideShapes Go.Lib
open Go.Proofs.YtgbkgdhnfjndgaaGreatDoor

noncomputable def laidW (os : Os) : World := World.laidAll Tryz.prog os Rows.loadPartsRow.laid
theorem laidW_met (os : Os) (args : Array Value) : laidMetH Tryz.prog Rows.loadPartsRow.laid ((laidW os).forCall (fun _ _ => 0) ⟨#[], args, []⟩).memory := by
  rw [MakeChecks.laidMetH_plain _ _ _ plainAll]
  exact laidMet_laidAll _ (by kernel_rfl) (by kernel_rfl)
theorem laidW_vars (os : Os) (args : Array Value) : ((laidW os).forCall (fun _ _ => 0) ⟨#[], args, []⟩).variablesRefB Tryz.prog = true := by kernel_rfl
theorem laidW_rest (os : Os) (args : Array Value) : (((laidW os).forCall (fun _ _ => 0) ⟨#[], args, []⟩).heap.toList.drop Tryz.prog.globals.size).take ((begin Tryz.prog (fun _ _ => 0) default).world.heap.size - Tryz.prog.globals.size) =
      (begin Tryz.prog (fun _ _ => 0) default).world.heap.toList.drop Tryz.prog.globals.size := by kernel_rfl
theorem reads10 (os : Os) {H : Type} (enc : TypeId × Value → H) : ∃ places, DataW.whole enc Tryz.prog ((laidW os).forCall (fun _ _ => 0) ⟨#[], #[.slice none 0 0], []⟩).memory Tryz.f10.params.toList Rows.loadPartsSpec.vars false #[Value.slice none 0 0].toList 8 = some ([.nil], [], places) :=
  ⟨[], by kernel_rfl⟩
end Gx

/- Part S1. -/
/- rows.Read. -/
set_option linter.unusedSimpArgs false
set_option linter.unusedVariables false
namespace Gx
open Go Go.Proofs Go.RowKit
variable {G : Nat → Option Obj}
/-- utf.Check: is a text of signs? -/
def utfOk (s : List UInt8) : Bool := decide (s.length ≤ walk printable s)
def chkW (s : List UInt8) : Int := if utfOk s then 0 else 8
def chkA (s : List UInt8) : Int := if utfOk s then 0 else (walk printable s : Nat)
theorem k63 [Laid G] (σ : St) (s : List UInt8) : ARet Tryz.prog G 63 [.str s] σ (flt (chkW s) (chkA s)) σ := by
  have h111 : ∀ σ, ARet Tryz.prog G 111 [.str s, .int .i64 (walk printable s : Nat)] σ (flt (chkW s) (chkA s)) σ := fun σ => by
    have := k111 (G := G) σ s (walk printable s : Nat)
    unfold chkW chkA utfOk
    by_cases h : s.length ≤ walk printable s
    · have h' : ¬ ((walk printable s : Nat) : Int) < s.length := by omega
      rw [if_neg h'] at this
      simpa [h] using this
    · have h' : ((walk printable s : Nat) : Int) < s.length := by omega
      rw [if_pos h'] at this
      simpa [h] using this
  refine ret_of has63 (Nat.le_of_ble_eq_true rfl) ?_
  simp only [ir63]
  repeat' (first | simp (maxSteps := 1000000) (disch := omega) only [rb0, rb1, rb2, rb3, rb4, rb5, Od.ev, Ao.dst, Nat.reduceEqDiff, ↓reduceIte, reduceIte, reduceCtorEq, Nat.reduceAdd, Nat.reduceLeDiff, Nat.reduceSub, Int.reduceToNat, byt, Nat.reduceBEq, flt] | with_reducible refine lw_of (fun _ => ?_) | with_reducible exact True.intro | with_reducible refine fin_same ?_ | with_reducible refine fin_loc ?_ ?_ ?_ | with_reducible exact Loc.refl _ | with_reducible refine Loc.push ?_ _ _ | with_reducible refine Loc.set ?_ _ _ (by first | omega | (simp only [push_n, set_n]; omega)) | with_reducible refine And.intro (by omega) ?_ | with_reducible refine cw_of (k112 _ s 113 [] [] printable (fun n => k113 _ n)) ?_ | with_reducible refine cw_of (h111 _) ?_)
theorem byt48 : ((48 : Nat) == byt) = false := rfl
theorem rows_ok48 (l : List Row) : ∀ y ∈ rowsPv l, y.cells.length = 3 ∧ elOk 48 y := by
  intro y hy
  obtain ⟨r, _, rfl⟩ := List.mem_map.1 hy
  exact ⟨rfl, rfl⟩
theorem lines_le (s : List UInt8) : (lines s).length ≤ s.length := by
  unfold lines; rw [List.length_map]; exact segs_count _ _
/-- A line's row; is the line told of? -/
def txtOf (s : List UInt8) : List UInt8 := trimR (· == 32) (s.dropWhile (· == 32))
def rrow (i : Nat) (s : List UInt8) : Row := ⟨(s.length : Int) - (s.dropWhile (· == 32)).length, txtOf s, (i : Int) + 1⟩
def badLine (s : List UInt8) : Bool := !utfOk s || decide (0 ≤ Lib.indexByte s 13)
def tabLine (s : List UInt8) : Bool := [9].isPrefixOf (txtOf s)
def rd (i : Nat) (acc : List Row) : List (List UInt8) → List Row × Int × Int
  | [] => (acc, 0, 0)
  | x :: r => if badLine x then ([], 8, (i : Int) + 1) else if tabLine x then ([], 9, (i : Int) + 1) else rd (i + 1) (acc ++ [rrow i x]) r
/-- rows.Read. -/
def readS (s : List UInt8) : List Row × Int × Int := if 65536 < s.length then ([], 5, 0) else rd 0 [] (lines s)
/-- The box of the fault. -/
structure Bx2 (σ0 σ : St) : Prop where
  loc : Loc σ0 σ
  n : σ0.n < σ.n
  m0 : (σ.m σ0.n).length = 2
  r0 : σ.ro σ0.n = false
theorem k38 [Laid G] (σ : St) (s : List UInt8) : ARet Tryz.prog G 38 [.str s] σ (.tup [.sl false (rowsPv (readS s).1), flt (readS s).2.1 (readS s).2.2]) σ := by
  refine ret_of has38 (Nat.le_of_ble_eq_true rfl) ?_
  simp only [ir38, flt, readS]
  by_cases hbig : 65536 < s.length
  · have h1 : ((s.length : Int) > 65536) = True := by simp; omega
    repeat' (first | simp (maxSteps := 1000000) (disch := omega) only [rb0, rb1, rb2, rb3, rb4, rb5, Od.ev, Ao.dst, Nat.reduceEqDiff, ↓reduceIte, reduceIte, reduceCtorEq, Nat.reduceAdd, Nat.reduceLeDiff, Nat.reduceSub, Int.reduceToNat, byt, Nat.reduceBEq, hbig, h1] | with_reducible refine lw_of (fun _ => ?_) | with_reducible exact True.intro | with_reducible refine fin_same ?_ | with_reducible refine fin_loc ?_ ?_ ?_ | with_reducible exact Loc.refl _ | with_reducible refine Loc.push ?_ _ _ | with_reducible refine Loc.set ?_ _ _ (by first | omega | (simp only [push_n, set_n]; omega)) | with_reducible refine And.intro (by omega) ?_)
    all_goals rfl
  · have h1 : ((s.length : Int) > 65536) = False := by simp; omega
    rw [if_neg hbig]
    repeat' (first | simp (maxSteps := 1000000) (disch := omega) only [rb0, rb1, rb2, rb3, rb4, rb5, Od.ev, Ao.dst, Nat.reduceEqDiff, ↓reduceIte, reduceIte, reduceCtorEq, Nat.reduceAdd, Nat.reduceLeDiff, Nat.reduceSub, Int.reduceToNat, byt, Nat.reduceBEq, h1] | with_reducible refine lw_of (fun _ => ?_) | with_reducible exact True.intro | with_reducible refine fin_same ?_ | with_reducible refine fin_loc ?_ ?_ ?_ | with_reducible exact Loc.refl _ | with_reducible refine Loc.push ?_ _ _ | with_reducible refine Loc.set ?_ _ _ (by first | omega | (simp only [push_n, set_n]; omega)) | with_reducible refine And.intro (by omega) ?_ | with_reducible refine cw_of (k62 _ s (by omega)) ?_)
    rename_i h48
    rw [List.length_map] at h48
    refine loop_rule (fun n ρ σ' => Bx2 σ σ' ∧ ∃ (i : Nat) (acc : List Row), n = (lines s).length - i ∧ i ≤ (lines s).length ∧ acc.length = i ∧ rd i acc ((lines s).drop i) = rd 0 [] (lines s) ∧ ρ 3 = .ptr σ.n 0 ∧ ρ 4 = .sl true (rowsPv acc) ∧ ρ 14 = .sl false ((lines s).map .str) ∧ ρ 15 = .int .i64 (lines s).length ∧ ρ 16 = .int .i64 i) (fun n ρ σ' hI => ?_) ⟨⟨?_, ?_, ?_, ?_⟩, 0, [], rfl, by omega, rfl, rfl, ?_, ?_, ?_, ?_, ?_⟩
    · obtain ⟨hB, i, acc, rfl, hle, hacc, hrd, e3, e4, e14, e15, e16⟩ := hI
      repeat' (first | simp (maxSteps := 1000000) (disch := omega) only [rb0, rb1, rb2, rb3, rb4, rb5, Od.ev, Ao.dst, Nat.reduceEqDiff, ↓reduceIte, reduceIte, reduceCtorEq, Nat.reduceAdd, Nat.reduceLeDiff, Nat.reduceSub, Int.reduceToNat, byt, Nat.reduceBEq, e15, e16] | with_reducible refine lw_of (fun _ => ?_) | with_reducible exact True.intro | with_reducible refine fin_same ?_ | with_reducible refine fin_loc ?_ ?_ ?_ | with_reducible exact Loc.refl _ | with_reducible refine Loc.push ?_ _ _ | with_reducible refine Loc.set ?_ _ _ (by first | omega | (simp only [push_n, set_n]; omega)) | with_reducible refine And.intro (by omega) ?_)
      refine bw_dec (fun hlt => ?_) (fun hlt => ?_)
      · have hlt : i < (lines s).length := by omega
        have hk : ((lines s).map Pv.str)[i]? = some (.str (lines s)[i]) := by simp [hlt]
        have hw : IntKind.i64.wrap ((i : Int) + 1) = (i : Int) + 1 := wrap64 (by omega)
        rw [List.drop_eq_getElem_cons hlt, rd] at hrd
        have hl := hB.loc
        have hm0 := hB.m0
        have hr0 := hB.r0
        have hn0 := hB.n
        cases hu : utfOk (lines s)[i] with
        | false =>
          have hb : badLine (lines s)[i] = true := by simp [badLine, hu]
          have hW : chkW (lines s)[i] = 8 := by simp [chkW, hu]
          rw [if_pos hb] at hrd
          repeat' (first | simp (maxSteps := 1000000) (disch := omega) only [rb0, rb1, rb2, rb3, rb4, rb5, Od.ev, Ao.dst, Nat.reduceEqDiff, ↓reduceIte, reduceIte, reduceCtorEq, Nat.reduceAdd, Nat.reduceLeDiff, Nat.reduceSub, Int.reduceToNat, byt, Nat.reduceBEq, e14, e16, hk, flt, hW, e3, hm0, hr0, hw] | with_reducible refine lw_of (fun _ => ?_) | with_reducible exact True.intro | with_reducible refine fin_same ?_ | with_reducible refine fin_loc ?_ ?_ ?_ | with_reducible exact Loc.refl _ | with_reducible refine Loc.push ?_ _ _ | with_reducible refine Loc.set ?_ _ _ (by first | omega | (simp only [push_n, set_n]; omega)) | with_reducible refine And.intro (by omega) ?_ | with_reducible refine cw_of (k63 _ _) ?_)
          all_goals first
            | exact hl
            | (rw [← hrd]; exact ⟨rfl, rfl, rfl⟩)
            | (rw [← hrd]; rfl)
        | true =>
          have hW : chkW (lines s)[i] = 0 := by simp [chkW, hu]
          have hA : chkA (lines s)[i] = 0 := by simp [chkA, hu]
          by_cases h13 : 0 ≤ Lib.indexByte (lines s)[i] 13
          · have hb : badLine (lines s)[i] = true := by simp [badLine, hu, h13]
            rw [if_pos hb] at hrd
            have h13' : (Lib.indexByte (lines s)[i] 13 ≥ 0) = True := by simp [h13]
            repeat' (first | simp (maxSteps := 1000000) (disch := omega) only [rb0, rb1, rb2, rb3, rb4, rb5, Od.ev, Ao.dst, Nat.reduceEqDiff, ↓reduceIte, reduceIte, reduceCtorEq, Nat.reduceAdd, Nat.reduceLeDiff, Nat.reduceSub, Int.reduceToNat, byt, Nat.reduceBEq, e14, e16, hk, flt, hW, hA, e3, hm0, hr0, hw, h13'] | with_reducible refine lw_of (fun _ => ?_) | with_reducible exact True.intro | with_reducible refine fin_same ?_ | with_reducible refine fin_loc ?_ ?_ ?_ | with_reducible exact Loc.refl _ | with_reducible refine Loc.push ?_ _ _ | with_reducible refine Loc.set ?_ _ _ (by first | omega | (simp only [push_n, set_n]; omega)) | with_reducible refine And.intro (by omega) ?_ | with_reducible refine cw_of (k63 _ _) ?_ | with_reducible refine cw_of (k64 _ _ 13) ?_)
            all_goals first
              | exact hl
              | (rw [← hrd]; exact ⟨rfl, rfl, rfl⟩)
              | (rw [← hrd]; rfl)
          · have hb : badLine (lines s)[i] = false := by simp [badLine, hu, h13]
            rw [hb, if_neg Bool.false_ne_true] at hrd
            have h13' : (Lib.indexByte (lines s)[i] 13 ≥ 0) = False := by simp [h13]
            repeat' (first | simp (maxSteps := 1000000) (disch := omega) only [rb0, rb1, rb2, rb3, rb4, rb5, Od.ev, Ao.dst, Nat.reduceEqDiff, ↓reduceIte, reduceIte, reduceCtorEq, Nat.reduceAdd, Nat.reduceLeDiff, Nat.reduceSub, Int.reduceToNat, byt, Nat.reduceBEq, e14, e16, hk, flt, hW, hA, e3, hm0, hr0, hw, h13'] | with_reducible refine lw_of (fun _ => ?_) | with_reducible exact True.intro | with_reducible refine fin_same ?_ | with_reducible refine fin_loc ?_ ?_ ?_ | with_reducible exact Loc.refl _ | with_reducible refine Loc.push ?_ _ _ | with_reducible refine Loc.set ?_ _ _ (by first | omega | (simp only [push_n, set_n]; omega)) | with_reducible refine And.intro (by omega) ?_ | with_reducible refine cw_of (k63 _ _) ?_ | with_reducible refine cw_of (k64 _ _ 13) ?_ | with_reducible refine cw_of (k47 _ _ 32 (by decide)) ?_ | with_reducible refine cw_of (k65 _ _ 32 (by decide)) ?_ | with_reducible refine cw_of (k66 _ _ _) ?_)
            have hB2 : Bx2 σ ((σ'.push 48 [Pv.int IntKind.i64 0, Pv.str [], Pv.int IntKind.i64 0]).set σ'.n [Pv.int IntKind.i64 (((lines s)[i].length : Int) - (List.dropWhile (fun x => x == 32) (lines s)[i]).length), Pv.str (trimR (fun x => x == 32) (List.dropWhile (fun x => x == 32) (lines s)[i])), Pv.int IntKind.i64 ((i : Int) + 1)]) := by
              have := hB.loc.1
              have hne : σ.n ≠ σ'.n := by omega
              exact ⟨(hB.loc.push _ _).set _ _ this, by simp [St.set, St.push]; omega, by simp [St.set, St.push, hne, hm0], by simp [St.set, St.push, hne, hr0]⟩
            have hmm : ((σ'.push 48 [Pv.int IntKind.i64 0, Pv.str [], Pv.int IntKind.i64 0]).set σ'.n [Pv.int IntKind.i64 (((lines s)[i].length : Int) - (List.dropWhile (fun x => x == 32) (lines s)[i]).length), Pv.str (trimR (fun x => x == 32) (List.dropWhile (fun x => x == 32) (lines s)[i])), Pv.int IntKind.i64 ((i : Int) + 1)]).m σ'.n = (rrow i (lines s)[i]).pv.cells := by simp [St.set, St.push, rrow, Row.pv, Pv.cells, txtOf]
            generalize ((σ'.push 48 [Pv.int IntKind.i64 0, Pv.str [], Pv.int IntKind.i64 0]).set σ'.n [Pv.int IntKind.i64 (((lines s)[i].length : Int) - (List.dropWhile (fun x => x == 32) (lines s)[i]).length), Pv.str (trimR (fun x => x == 32) (List.dropWhile (fun x => x == 32) (lines s)[i])), Pv.int IntKind.i64 ((i : Int) + 1)]) = σ2 at hB2 hmm ⊢
            have hl := hB2.loc
            have hm0 := hB2.m0
            have hr0 := hB2.r0
            have hn0 := hB2.n
            clear hB
            refine bw_split (fun h => ?_) (fun h => ?_)
            · have ht : tabLine (lines s)[i] = true := h
              rw [if_pos ht] at hrd
              have hrd' := hrd.symm
              have hnil : rowsPv [] = [] := rfl
              repeat' (first | simp (maxSteps := 1000000) (disch := omega) only [rb0, rb1, rb2, rb3, rb4, rb5, Od.ev, Ao.dst, Nat.reduceEqDiff, ↓reduceIte, reduceIte, reduceCtorEq, Nat.reduceAdd, Nat.reduceLeDiff, Nat.reduceSub, Int.reduceToNat, byt, Nat.reduceBEq, e3, hm0, hr0, hw, hrd', hnil] | with_reducible refine lw_of (fun _ => ?_) | with_reducible exact True.intro | with_reducible refine fin_same ?_ | with_reducible refine fin_loc ?_ ?_ ?_ | with_reducible exact Loc.refl _ | with_reducible refine Loc.push ?_ _ _ | with_reducible refine Loc.set ?_ _ _ (by first | omega | (simp only [push_n, set_n]; omega)) | with_reducible refine And.intro (by omega) ?_)
              all_goals first
                | exact hl
                | rfl
            · have ht : tabLine (lines s)[i] = false := by simpa [tabLine, txtOf] using h
              rw [ht, if_neg Bool.false_ne_true] at hrd
              have ho := eq_true (rows_ok48 acc)
              have ho1 := eq_true (rows_ok48 [rrow i (lines s)[i]])
              simp only [rowsPv, List.map_cons, List.map_nil, Row.pv] at ho1
              have hsz : (rowsPv acc).length = i := by rw [rows_size, hacc]
              have hll := lines_le s
              repeat' (first | simp (maxSteps := 1000000) (disch := omega) only [rb0, rb1, rb2, rb3, rb4, rb5, Od.ev, Ao.dst, Nat.reduceEqDiff, ↓reduceIte, reduceIte, reduceCtorEq, Nat.reduceAdd, Nat.reduceLeDiff, Nat.reduceSub, Int.reduceToNat, byt, Nat.reduceBEq, e3, e4, e14, e15, e16, hw, hmm, Row.pv, ho, hsz, List.mem_singleton, forall_eq, List.not_mem_nil, false_implies, implies_true, byt48] | with_reducible refine lw_of (fun _ => ?_) | with_reducible exact True.intro | with_reducible refine fin_same ?_ | with_reducible refine fin_loc ?_ ?_ ?_ | with_reducible exact Loc.refl _ | with_reducible refine Loc.push ?_ _ _ | with_reducible refine Loc.set ?_ _ _ (by first | omega | (simp only [push_n, set_n]; omega)) | with_reducible refine And.intro (by omega) ?_)
              exact ⟨_, by omega, hB2, i + 1, acc ++ [rrow i (lines s)[i]], rfl, by omega, by simp [hacc], hrd, by simp [rowsPv, Row.pv], by omega⟩
      · have hl := hB.loc
        have hm0 := hB.m0
        have hr0 := hB.r0
        have hn0 := hB.n
        rw [List.drop_eq_nil_of_le (by omega), rd] at hrd
        have hrd' := hrd.symm
        repeat' (first | simp (maxSteps := 1000000) (disch := omega) only [rb0, rb1, rb2, rb3, rb4, rb5, Od.ev, Ao.dst, Nat.reduceEqDiff, ↓reduceIte, reduceIte, reduceCtorEq, Nat.reduceAdd, Nat.reduceLeDiff, Nat.reduceSub, Int.reduceToNat, byt, Nat.reduceBEq, e3, e4, hm0, hr0, hrd'] | with_reducible refine lw_of (fun _ => ?_) | with_reducible exact True.intro | with_reducible refine fin_same ?_ | with_reducible refine fin_loc ?_ ?_ ?_ | with_reducible exact Loc.refl _ | with_reducible refine Loc.push ?_ _ _ | with_reducible refine Loc.set ?_ _ _ (by first | omega | (simp only [push_n, set_n]; omega)) | with_reducible refine And.intro (by omega) ?_)
        all_goals first
          | exact hl
          | rfl
          | (rw [cleanL_iff]; intro x hx; obtain ⟨r, _, rfl⟩ := List.mem_map.1 hx; rfl)
    · exact Loc.push (Loc.refl σ) _ _
    · simp [St.push]
    · simp [St.push]
    · simp [St.push]
    all_goals first
      | (simp (maxSteps := 1000000) (disch := omega) only [rb0, rb1, rb2, rb3, rb4, rb5, Od.ev, Ao.dst, Nat.reduceEqDiff, ↓reduceIte, reduceIte, reduceCtorEq, Nat.reduceAdd, Nat.reduceLeDiff, Nat.reduceSub, Int.reduceToNat, byt, Nat.reduceBEq]; done)
      | (simp (maxSteps := 1000000) (disch := omega) only [rb0, rb1, rb2, rb3, rb4, rb5, Od.ev, Ao.dst, Nat.reduceEqDiff, ↓reduceIte, reduceIte, reduceCtorEq, Nat.reduceAdd, Nat.reduceLeDiff, Nat.reduceSub, Int.reduceToNat, byt, Nat.reduceBEq, List.length_map]; done)
      | (simp (maxSteps := 1000000) (disch := omega) only [rb0, rb1, rb2, rb3, rb4, rb5, Od.ev, Ao.dst, Nat.reduceEqDiff, ↓reduceIte, reduceIte, reduceCtorEq, Nat.reduceAdd, Nat.reduceLeDiff, Nat.reduceSub, Int.reduceToNat, byt, Nat.reduceBEq]; rfl)
end Gx

/- Part S2. -/
/- load.Load: too many documents; a fault of its rows. -/
set_option linter.unusedSimpArgs false
set_option linter.unusedVariables false
namespace Gx
open Go Go.Proofs Go.RowKit
variable {G : Nat → Option Obj}
theorem QB_rt (r : Pv) (σ' σ1 : St) (ρ : Env) : QB r σ' .rt ρ σ1 = (r = .bool false ∧ σ' = σ1.at 1) := rfl
theorem eachN_at : ∀ (n k : Nat) (l : List Row) (j : Nat) (x : Nat × List Row), (eachN n k l)[j]? = some x → k + j ≤ x.1 ∧ x.1 ≤ k + l.length
  | 0, k, l, j, x, h => by simp [eachN] at h
  | n + 1, k, l, j, x, h => by
    have hm := mk1_le l
    have rest : ∀ i, (if mk1 l < l.length then eachN n (k + mk1 l + 1) (l.drop (mk1 l + 1)) else [])[i]? = some x → k + mk1 l + 1 + i ≤ x.1 ∧ x.1 ≤ k + l.length := by
      intro i hi
      split at hi
      · rename_i hlt
        have := eachN_at n _ _ i x hi
        rw [List.length_drop] at this
        omega
      · cases hi
    simp only [eachN] at h
    split at h
    · cases j with
      | zero =>
        simp only [List.cons_append, List.nil_append, List.getElem?_cons_zero, Option.some.injEq] at h
        subst h; simp
      | succ j =>
        simp only [List.cons_append, List.nil_append, List.getElem?_cons_succ] at h
        have := rest j h
        omega
    · rw [List.nil_append] at h
      have := rest j h
      omega
theorem body15b (σ : St) (ρ : Env) (b b2 b3 b4 : Nat) (n : Nat) (rows : List Pv) (out : List Pv) (l : List Row) (rr : Row) (h6 : (ρ 6).shr = .ptr b 0) (h2 : (ρ 2).shr = .ptr b2 0) (h3 : (ρ 3).shr = .ptr b3 0) (h4 : (ρ 4).shr = .ptr b4 0) (hk : σ.k = 0)
    (hm : σ.m b = [.sl true out]) (hm4 : σ.m b4 = [.sl false (rowsPv l)]) (hm2 : (σ.m b2).length = 1) (hm3 : (σ.m b3).length = 2) (hr2 : σ.ro b2 = false) (hr3 : σ.ro b3 = false) (h23 : b3 ≠ b2) (h42 : b4 ≠ b2) (hlen : out.length = 64) (hn : 1 ≤ n) (hnl : n ≤ 2 ^ 32) (hrr : l[n - 1]? = some rr) :
    YB Tryz.prog G ia15 ib15 [25, 26] ρ [.int .i64 n, .sl false rows] σ (.bool false) (((σ.set b2 [.sl true []]).set b3 [.int .i64 5, .int .i64 rr.at_]).at 1) := by
  refine ⟨hk, rfl, ?_⟩
  simp only [ia15, ib15, parEnv]
  have h64 : ((out.length : Int) = 64) = True := by simp; omega
  have e2 : List.drop 1 (σ.m b2) = [] := List.drop_eq_nil_of_le (by omega)
  have e3 : List.drop 2 (σ.m b3) = [] := List.drop_eq_nil_of_le (by omega)
  have hw : IntKind.i64.wrap ((n : Int) - 1) = ((n - 1 : Nat) : Int) := by rw [wrap64 (by omega)]; omega
  have hg : (rowsPv l)[n - 1]? = some rr.pv := by rw [rows_at, hrr]; rfl
  repeat' (first | simp (maxSteps := 1000000) (disch := omega) only [rb0, rb1, rb2, rb3, rb4, rb5, Od.ev, Ao.dst, Nat.reduceEqDiff, ↓reduceIte, reduceIte, reduceCtorEq, Nat.reduceAdd, Nat.reduceLeDiff, Nat.reduceSub, Int.reduceToNat, byt, Nat.reduceBEq, h6, h2, h3, h4, hm, hm4, hm2, hm3, hr2, hr3, QB_rt, h64, hw, hg, Row.pv, h23, h42, e2, e3] | with_reducible refine lw_of (fun _ => ?_) | with_reducible exact True.intro | with_reducible refine fin_same ?_ | with_reducible refine fin_loc ?_ ?_ ?_ | with_reducible exact Loc.refl _ | with_reducible refine Loc.push ?_ _ _ | with_reducible refine Loc.set ?_ _ _ (by first | omega | (simp only [push_n, set_n]; omega)) | with_reducible refine And.intro (by omega) ?_)
  all_goals omega
/-- The state of a stop: no trees, the fault in its box. -/
structure Stp (σ0 σ : St) (c : Int) : Prop where
  k : σ.k = 1
  loc : Loc σ0 σ
  n : σ0.n + 6 ≤ σ.n
  m0 : σ.m σ0.n = [.sl true []]
  m1 : σ.m (σ0.n + 1) = [.int .i64 5, .int .i64 c]
  r0 : σ.ro σ0.n = false
  r1 : σ.ro (σ0.n + 1) = false
theorem k15b {s : List UInt8} {l : List Row} (hread : ∀ σ, ARet Tryz.prog G 38 [.str s] σ (.tup [.sl false (rowsPv l), flt 0 0]) σ) (hs : l.length < 2 ^ 32 - 1) (x : Nat × List Row) (hx : (eachL l)[64]? = some x) (rr : Row) (hrr : l[x.1 - 1]? = some rr) (σ : St) :
    ARet Tryz.prog G 15 [.str s] σ (.tup [.sl false [], flt 5 rr.at_]) σ := by
  obtain ⟨r, hr⟩ : ∃ r : Pv, r = .tup [.sl false [], flt 5 rr.at_] := ⟨_, rfl⟩
  rw [← hr]
  refine aret_marks (Nat.le_of_ble_eq_true rfl) Tryz.func15 (by kernel_rfl) hb15 (by rw [Tryz.ntmps15]; exact er15) (by rw [Tryz.ntmps15]; exact Nat.le_of_ble_eq_true rfl) (fun F g w a hG hA => ?_)
  rw [Tryz.ntmps15] at hA ⊢
  rw [c15_eq]
  refine seq_pl e15_0 (Q := Done r15 σ r σ) (fun e a w _ h => .inl h) hG hA ?_
  simp only [i15_0]
  repeat' (first | simp (maxSteps := 1000000) (disch := omega) only [rb0, rb1, rb2, rb3, rb4, rb5, Od.ev, Ao.dst, Nat.reduceEqDiff, ↓reduceIte, reduceIte, reduceCtorEq, Nat.reduceAdd, Nat.reduceLeDiff, Nat.reduceSub, Int.reduceToNat, byt, Nat.reduceBEq] | with_reducible refine lw_of (fun _ => ?_) | with_reducible exact True.intro | with_reducible refine fin_same ?_ | with_reducible refine fin_loc ?_ ?_ ?_ | with_reducible exact Loc.refl _ | with_reducible refine Loc.push ?_ _ _ | with_reducible refine Loc.set ?_ _ _ (by first | omega | (simp only [push_n, set_n]; omega)) | with_reducible refine And.intro (by omega) ?_)
  intro a1 w1 hA1
  refine seq_pl e15_1 (Q := Done r15 σ r σ) (fun e a w _ h => .inl h) hG hA1 ?_
  simp only [i15_1]
  repeat' (first | simp (maxSteps := 1000000) (disch := omega) only [rb0, rb1, rb2, rb3, rb4, rb5, Od.ev, Ao.dst, Nat.reduceEqDiff, ↓reduceIte, reduceIte, reduceCtorEq, Nat.reduceAdd, Nat.reduceLeDiff, Nat.reduceSub, Int.reduceToNat, byt, Nat.reduceBEq, flt] | with_reducible refine lw_of (fun _ => ?_) | with_reducible exact True.intro | with_reducible refine fin_same ?_ | with_reducible refine fin_loc ?_ ?_ ?_ | with_reducible exact Loc.refl _ | with_reducible refine Loc.push ?_ _ _ | with_reducible refine Loc.set ?_ _ _ (by first | omega | (simp only [push_n, set_n]; omega)) | with_reducible refine And.intro (by omega) ?_ | with_reducible refine cw_of (hread _) ?_)
  intro a2 w2 hA2
  refine seq_pl e15_2 (Q := Done r15 σ r σ) (fun e a w _ h => .inl h) hG hA2 ?_
  simp only [i15_2]
  repeat' (first | simp (maxSteps := 1000000) (disch := omega) only [rb0, rb1, rb2, rb3, rb4, rb5, Od.ev, Ao.dst, Nat.reduceEqDiff, ↓reduceIte, reduceIte, reduceCtorEq, Nat.reduceAdd, Nat.reduceLeDiff, Nat.reduceSub, Int.reduceToNat, byt, Nat.reduceBEq] | with_reducible refine lw_of (fun _ => ?_) | with_reducible exact True.intro | with_reducible refine fin_same ?_ | with_reducible refine fin_loc ?_ ?_ ?_ | with_reducible exact Loc.refl _ | with_reducible refine Loc.push ?_ _ _ | with_reducible refine Loc.set ?_ _ _ (by first | omega | (simp only [push_n, set_n]; omega)) | with_reducible refine And.intro (by omega) ?_)
  intro a3 w3 hA3
  refine seq_pl e15_3 (Q := Done r15 σ r σ) (fun e a w _ h => .inl h) hG hA3 ?_
  simp only [i15_3]
  repeat' (first | simp (maxSteps := 1000000) (disch := omega) only [rb0, rb1, rb2, rb3, rb4, rb5, Od.ev, Ao.dst, Nat.reduceEqDiff, ↓reduceIte, reduceIte, reduceCtorEq, Nat.reduceAdd, Nat.reduceLeDiff, Nat.reduceSub, Int.reduceToNat, byt, Nat.reduceBEq] | with_reducible refine lw_of (fun _ => ?_) | with_reducible exact True.intro | with_reducible refine fin_same ?_ | with_reducible refine fin_loc ?_ ?_ ?_ | with_reducible exact Loc.refl _ | with_reducible refine Loc.push ?_ _ _ | with_reducible refine Loc.set ?_ _ _ (by first | omega | (simp only [push_n, set_n]; omega)) | with_reducible refine And.intro (by omega) ?_)
  intro a4 w4 hA4
  refine wp_seq (seq_pl e15_4 (Q := Done r15 σ r σ) (fun e a w hne h => ?_) hG hA4 ?_)
  · cases e with
    | normal => exact absurd rfl hne
    | _ => exact .inl h
  simp only [i15_4]
  repeat' (first | simp (maxSteps := 1000000) (disch := omega) only [rb0, rb1, rb2, rb3, rb4, rb5, Od.ev, Ao.dst, Nat.reduceEqDiff, ↓reduceIte, reduceIte, reduceCtorEq, Nat.reduceAdd, Nat.reduceLeDiff, Nat.reduceSub, Int.reduceToNat, byt, Nat.reduceBEq] | with_reducible refine lw_of (fun _ => ?_) | with_reducible exact True.intro | with_reducible refine fin_same ?_ | with_reducible refine fin_loc ?_ ?_ ?_ | with_reducible exact Loc.refl _ | with_reducible refine Loc.push ?_ _ _ | with_reducible refine Loc.set ?_ _ _ (by first | omega | (simp only [push_n, set_n]; omega)) | with_reducible refine And.intro (by omega) ?_ | with_reducible refine cw_of (k40 _ _) ?_)
  intro a5 w5 hA5
  obtain ⟨ρ5, σ5, hA5', g2, g3, g4, g6, g24, hS⟩ : ∃ ρ5 σ5, At 63 F g w [] ρ5 σ5 a5 w5 ∧ ρ5 2 = .ptr σ.n 0 ∧ ρ5 3 = .ptr (σ.n + 1) 0 ∧ ρ5 4 = .ptr (σ.n + 2) 0 ∧ ρ5 6 = .ptr (σ.n + 4) 0 ∧ ρ5 24 = .clo 68 [] [.ptr (σ.n + 5) 0] ∧ Six σ (σ5.at 0) (.sl true []) (.sl false (rowsPv l)) := by
    refine ⟨_, _, hA5, by simp (maxSteps := 1000000) (disch := omega) only [rb0, rb1, rb2, rb3, rb4, rb5, Od.ev, Ao.dst, Nat.reduceEqDiff, ↓reduceIte, reduceIte, reduceCtorEq, Nat.reduceAdd, Nat.reduceLeDiff, Nat.reduceSub, Int.reduceToNat, byt, Nat.reduceBEq], by simp (maxSteps := 1000000) (disch := omega) only [rb0, rb1, rb2, rb3, rb4, rb5, Od.ev, Ao.dst, Nat.reduceEqDiff, ↓reduceIte, reduceIte, reduceCtorEq, Nat.reduceAdd, Nat.reduceLeDiff, Nat.reduceSub, Int.reduceToNat, byt, Nat.reduceBEq], by simp (maxSteps := 1000000) (disch := omega) only [rb0, rb1, rb2, rb3, rb4, rb5, Od.ev, Ao.dst, Nat.reduceEqDiff, ↓reduceIte, reduceIte, reduceCtorEq, Nat.reduceAdd, Nat.reduceLeDiff, Nat.reduceSub, Int.reduceToNat, byt, Nat.reduceBEq, Nat.add_assoc, Nat.reduceAdd], by simp (maxSteps := 1000000) (disch := omega) only [rb0, rb1, rb2, rb3, rb4, rb5, Od.ev, Ao.dst, Nat.reduceEqDiff, ↓reduceIte, reduceIte, reduceCtorEq, Nat.reduceAdd, Nat.reduceLeDiff, Nat.reduceSub, Int.reduceToNat, byt, Nat.reduceBEq, Nat.add_assoc, Nat.reduceAdd], by simp (maxSteps := 1000000) (disch := omega) only [rb0, rb1, rb2, rb3, rb4, rb5, Od.ev, Ao.dst, Nat.reduceEqDiff, ↓reduceIte, reduceIte, reduceCtorEq, Nat.reduceAdd, Nat.reduceLeDiff, Nat.reduceSub, Int.reduceToNat, byt, Nat.reduceBEq, Nat.add_assoc, Nat.reduceAdd], ?_⟩
    refine ⟨rfl, ?_, by simp [St.at, St.push, St.set, Nat.add_assoc], by simp [St.at, St.push, St.set, Nat.add_assoc], by simp [St.at, St.push, St.set, Nat.add_assoc], by simp [St.at, St.push, St.set, Nat.add_assoc], by simp [St.at, St.push, St.set, Nat.add_assoc], by simp [St.at, St.push, St.set, Nat.add_assoc], by simp [St.at, St.push, St.set, Nat.add_assoc], by simp [St.at, St.push, St.set, Nat.add_assoc], by simp [St.at, St.push, St.set, Nat.add_assoc]⟩
    refine ⟨by simp [St.at, St.push, St.set, Nat.add_assoc], fun b hb => ?_⟩
    have e0 : b ≠ σ.n := by omega
    have e1 : b ≠ σ.n + 1 := by omega
    have e2 : b ≠ σ.n + 1 + 1 := by omega
    have e3 : b ≠ σ.n + 1 + 1 + 1 := by omega
    have e4 : b ≠ σ.n + 1 + 1 + 1 + 1 := by omega
    have e5 : b ≠ σ.n + 1 + 1 + 1 + 1 + 1 := by omega
    simp [St.at, St.push, St.set, e0, e1, e2, e3, e4, e5]
  clear hA hA1 hA2 hA3 hA4 hA5
  refine rf_mid (god := .t 24) rfl ea15 eb15 ez15 na15 nb15 (gf := 68) (caps := [.ptr (σ.n + 5) 0]) g24 (Nat.le_of_ble_eq_true rfl) Tryz.func68 (by kernel_rfl) hbi68 (by rw [Tryz.ntmps68]; exact eci68) (by rw [Tryz.ntmps68]; exact oki68) rfl (by rw [Tryz.ntmps68]; exact Nat.le_of_ble_eq_true rfl)
    (fun lp L hL => ?_) hG hA5' (fun e a w h => .inr h)
  refine it68 (b2 := σ.n + 5) (σ := σ5.at 0) l (by omega)
    (fun d σ' => Six σ σ' (.sl true ((d.map (·.2)).map partPv)) (.sl false (rowsPv l)) ∧ d.length ≤ 64) (fun σ' => Stp σ σ' rr.at_) (fun d σ' h => ⟨h.1.m5, h.1.k⟩) (fun _ h => by rw [h.k]; decide) (fun d y q σ' h hd => ?_) ⟨hS, by simp⟩ (fun σe h => ?_) lp L hL
  · obtain ⟨h, hdl⟩ := h
    by_cases hlt : d.length < 64
    · refine .inl ⟨_, body15 σ' _ (σ.n + 4) _ _ ((d.map (·.2)).map partPv) (by rw [g6]; rfl) h.k h.m4 h.r4 (by simpa using hlt) (parts_ok _), ?_, by simp; omega⟩
      have := h.set4 (.sl true ((d.map (·.2)).map partPv ++ [.sl false (rowsPv y.2)]))
      simpa [partPv] using this
    · have hd64 : d.length = 64 := by omega
      have hy : (eachL l)[64]? = some y := by rw [← hd, ← hd64]; simp
      obtain rfl : y = x := Option.some.inj (hy.symm.trans hx)
      have hat := eachN_at _ _ _ _ _ hx
      refine .inr ⟨_, body15b σ' _ (σ.n + 4) σ.n (σ.n + 1) (σ.n + 2) y.1 _ ((d.map (·.2)).map partPv) l rr (by rw [g6]; rfl) (by rw [g2]; rfl) (by rw [g3]; rfl) (by rw [g4]; rfl) h.k h.m4 h.m2 h.m0 h.m1 h.r0 h.r1 (by omega) (by omega) (by simpa using hd64) (by omega) (by omega) hrr, ?_⟩
      have hn := h.n
      exact ⟨rfl, (show Loc σ ((σ'.set σ.n [.sl true []]).set (σ.n + 1) [.int .i64 5, .int .i64 rr.at_]) from (h.loc.set _ _ (Nat.le_refl _)).set _ _ (by omega)), hn, by simp [St.at, St.set], by simp [St.at, St.set], by simp [St.at, St.set, h.r0], by simp [St.at, St.set, h.r1]⟩
  · replace h : Stp σ σe rr.at_ := h.elim (fun h => by have := (List.getElem?_eq_some_iff.1 hx).1; have := h.2; omega) (fun h => h)
    rw [h.k]
    simp only
    have hm0 := h.m0
    have hm1 := h.m1
    have hr0 := h.r0
    have hr1 := h.r1
    have hn := h.n
    simp only [q_blk_rt, q_then_rt, D_rt, r15]
    repeat' (first | simp (maxSteps := 1000000) (disch := omega) only [rb0, rb1, rb2, rb3, rb4, rb5, Od.ev, Ao.dst, Nat.reduceEqDiff, ↓reduceIte, reduceIte, reduceCtorEq, Nat.reduceAdd, Nat.reduceLeDiff, Nat.reduceSub, Int.reduceToNat, byt, Nat.reduceBEq, g2, g3, hm0, hm1, hr0, hr1] | with_reducible refine lw_of (fun _ => ?_) | with_reducible exact True.intro | with_reducible refine fin_same ?_ | with_reducible refine fin_loc ?_ ?_ ?_ | with_reducible exact Loc.refl _ | with_reducible refine Loc.push ?_ _ _ | with_reducible refine Loc.set ?_ _ _ (by first | omega | (simp only [push_n, set_n]; omega)) | with_reducible refine And.intro (by omega) ?_)
    all_goals first
      | exact h.loc
      | (rw [hr]; rfl)
      | skip
    done
end Gx

/- Part S3. -/
/- grommetlaw11.LoadEmpty. -/
set_option linter.unusedSimpArgs false
set_option linter.unusedVariables false
namespace Gx
open Go Go.Proofs Go.RowKit
variable {G : Nat → Option Obj}
def rep (k : Nat) (p : List UInt8) : List UInt8 := (List.replicate k p).flatten
theorem rep_succ (k : Nat) (p : List UInt8) : rep (k + 1) p = rep k p ++ p := by
  unfold rep; rw [List.replicate_succ', List.flatten_append]; simp
def txtE (n e : Nat) : List UInt8 := rep e [35, 32, 110, 10, 10] ++ rep n [45, 45, 45, 10]
def rowsFrom : Nat → List (List UInt8) → List Row
  | _, [] => []
  | i, x :: r => rrow i x :: rowsFrom (i + 1) r
theorem rd_good : ∀ (ls : List (List UInt8)) (i : Nat) (acc : List Row), (∀ x ∈ ls, badLine x = false ∧ tabLine x = false) → rd i acc ls = (acc ++ rowsFrom i ls, 0, 0)
  | [], i, acc, h => by simp [rd, rowsFrom]
  | x :: r, i, acc, h => by
    have h0 := h x (by simp)
    rw [rd, h0.1, h0.2, if_neg Bool.false_ne_true, if_neg Bool.false_ne_true, rd_good r (i + 1) _ (fun y hy => h y (by simp [hy]))]
    simp [rowsFrom]
theorem first_note : first [35, 32, 110] = (35, 1) := by kernel_rfl
theorem first_blank : first [32, 110] = (32, 1) := by kernel_rfl
theorem first_n : first [110] = (110, 1) := by kernel_rfl
theorem first_3 : first [45, 45, 45] = (45, 1) := by kernel_rfl
theorem first_2 : first [45, 45] = (45, 1) := by kernel_rfl
theorem first_1 : first [45] = (45, 1) := by kernel_rfl
theorem good_note : badLine [35, 32, 110] = false ∧ tabLine [35, 32, 110] = false := by
  refine ⟨?_, by kernel_rfl⟩
  have : utfOk [35, 32, 110] = true := by
    unfold utfOk
    rw [walk_cons _ (by simp), first_note]
    simp only [printable, List.drop_succ_cons, List.drop_zero]
    rw [walk_cons _ (by simp), first_blank]
    simp only [printable, List.drop_succ_cons, List.drop_zero]
    rw [walk_cons _ (by simp), first_n]
    simp [printable, walk_nil]
  have e13 : decide (0 ≤ Lib.indexByte [35, 32, 110] 13) = false := by kernel_rfl
  unfold badLine
  rw [this, e13]; rfl
theorem good_mark : badLine [45, 45, 45] = false ∧ tabLine [45, 45, 45] = false := by
  refine ⟨?_, by kernel_rfl⟩
  have : utfOk [45, 45, 45] = true := by
    unfold utfOk
    rw [walk_cons _ (by simp), first_3]
    simp only [printable, List.drop_succ_cons, List.drop_zero]
    rw [walk_cons _ (by simp), first_2]
    simp only [printable, List.drop_succ_cons, List.drop_zero]
    rw [walk_cons _ (by simp), first_1]
    simp [printable, walk_nil]
  have e13 : decide (0 ≤ Lib.indexByte [45, 45, 45] 13) = false := by kernel_rfl
  unfold badLine
  rw [this, e13]; rfl
theorem good_nil : badLine [] = false ∧ tabLine [] = false := by
  refine ⟨?_, by kernel_rfl⟩
  have : utfOk [] = true := by unfold utfOk; rw [walk_nil]; rfl
  have e13 : decide (0 ≤ Lib.indexByte [] 13) = false := by kernel_rfl
  unfold badLine
  rw [this, e13]; rfl
def goodE (x : List UInt8) : Bool := x == [35, 32, 110] || x == [45, 45, 45] || x == []
theorem goodE_ok {x : List UInt8} (h : goodE x = true) : badLine x = false ∧ tabLine x = false := by
  simp only [goodE, Bool.or_eq_true, beq_iff_eq] at h
  rcases h with (rfl | rfl) | rfl
  · exact good_note
  · exact good_mark
  · exact good_nil
def rowsE (n e : Nat) : List Row := rowsFrom 0 (lines (txtE n e))
def okE (n e : Nat) : Bool :=
  decide ((txtE n e).length ≤ 65536) && (lines (txtE n e)).all goodE && decide ((rowsE n e).length < 4000) &&
  (if n ≤ 64 then decide ((eachL (rowsE n e)).length = n) && (eachL (rowsE n e)).all (fun p => p.2.isEmpty) else match (eachL (rowsE n e))[64]? with
    | some x => match (rowsE n e)[x.1 - 1]? with
      | some rr => decide (rr.at_ = 2 * (e : Int) + 65)
      | none => false
    | none => false)
theorem allE : ((List.range 70).all fun n => (List.range 5).all fun e => okE n e) = true := by kernel_rfl
theorem okE_of {n e : Nat} (hn : n < 70) (he : e < 5) : okE n e = true := by
  have h := List.all_eq_true.1 (List.all_eq_true.1 allE n (List.mem_range.2 hn)) e (List.mem_range.2 he)
  exact h
end Gx

/- Part Ev3. -/
namespace Gx
open Go Go.Proofs Gx
set_option maxRecDepth 100000
theorem evA4 : callE tbA 500 100 17 [.agg [.int .i64 1, .str [], .str [], .sl false []], .agg [.int .i64 1, .str [], .str [], .sl false []]] [] = some (.bool true, []) := by kernel_rfl
end Gx
