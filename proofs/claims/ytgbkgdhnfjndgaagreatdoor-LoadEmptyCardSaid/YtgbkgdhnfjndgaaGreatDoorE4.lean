import Derived.Test.YtgbkgdhnfjndgaaGreatDoorE3
import Derived.Carry
import Derived.ChangeSame
import Derived.Deep.DeepHandedRow
import Derived.Deep.Slices
import Derived.Deep.Strs
import Derived.KernelRfl
import Derived.Lib.LaidU8T
import Derived.MakeChecks
import Derived.OpenShut
import Derived.SizedLaws
import Derived.Test.YtgbkgdhnfjndgaaGreatDoorProg
import Derived.Test.YtgbkgdhnfjndgaaGreatDoorSh
import Derived.Test.YtgbkgdhnfjndgaaGreatDoorTie
import Derived.WalkKit
import Derived.WideKeyArgs
/- A part of the proof: a calculus of values over the model, and the functions that the statement reaches, each once, in that calculus. -/
set_option linter.all false
set_option linter.unusedSimpArgs false
set_option linter.unusedVariables false

/- Part K4. -/
/- Rows. -/
set_option linter.unusedSimpArgs false
set_option linter.unusedVariables false
namespace Gx
open Go Go.Proofs Go.RowKit
variable {G : Nat → Option Obj}

/-- A row of a text. -/
structure Row where
  col : Int
  text : List UInt8
  at_ : Int
  deriving DecidableEq
def Row.pv (r : Row) : Pv := .agg [.int .i64 r.col, .str r.text, .int .i64 r.at_]
def rowsPv (l : List Row) : List Pv := l.map Row.pv
theorem rows_len (l : List Row) : (∀ x ∈ rowsPv l, x.cells.length = 3) = True := by
  simp only [eq_iff_iff, iff_true]
  intro x hx
  obtain ⟨r, _, rfl⟩ := List.mem_map.1 hx
  rfl
theorem rows_size (l : List Row) : (rowsPv l).length = l.length := by simp [rowsPv]
theorem rows_at (l : List Row) (i : Nat) : (rowsPv l)[i]? = (l[i]?).map Row.pv := by simp [rowsPv]
theorem rows_drop (l : List Row) (i : Nat) : (rowsPv l).drop i = rowsPv (l.drop i) := by simp [rowsPv]
theorem rows_take (l : List Row) (i : Nat) : (rowsPv l).take i = rowsPv (l.take i) := by simp [rowsPv]
theorem row_cells (r : Row) : r.pv.cells = [.int .i64 r.col, .str r.text, .int .i64 r.at_] := rfl

/-- The first place of a row that is asked for; -1: none. -/
def idx (p : Row → Bool) (l : List Row) : Int := match l.findIdx? p with
  | some i => i
  | none => -1
theorem idx_at {p : Row → Bool} {l : List Row} {k : Nat} {r : Row} (h0 : ∀ (j : Nat) (x : Row), j < k → l[j]? = some x → p x = false) (h1 : l[k]? = some r) (h2 : p r = true) : idx p l = k := by
  have : l.findIdx? p = some k := by
    rw [List.findIdx?_eq_some_iff_getElem]
    obtain ⟨hk, rfl⟩ := List.getElem?_eq_some_iff.1 h1
    exact ⟨hk, h2, fun j hj => by simpa using h0 j _ hj (List.getElem?_eq_getElem (by omega))⟩
  simp [idx, this]
theorem idx_none {p : Row → Bool} {l : List Row} (h0 : ∀ (j : Nat) (x : Row), l[j]? = some x → p x = false) : idx p l = -1 := by
  have : l.findIdx? p = none := by
    rw [List.findIdx?_eq_none_iff]
    intro x hx
    obtain ⟨j, hj⟩ := List.mem_iff_getElem?.1 hx
    exact h0 j x hj
  simp [idx, this]

theorem k69 (σ : St) (l : List Row) (f : Nat) (a b : List Pv) (p : Row → Bool) (hp : ∀ r : Row, ARet Tryz.prog G f (a ++ [r.pv] ++ b) σ (.bool (p r)) σ) : ARet Tryz.prog G 69 [.sl false (rowsPv l), .clo f a b] σ (.int .i64 (idx p l)) σ := by
  refine ret_of has69 (Nat.le_of_ble_eq_true rfl) ?_
  simp only [ir69]
  repeat' (first | simp (maxSteps := 1000000) (disch := omega) only [rb0, rb1, rb2, rb3, rb4, rb5, Od.ev, Ao.dst, Nat.reduceEqDiff, ↓reduceIte, reduceIte, reduceCtorEq, Nat.reduceAdd, Nat.reduceLeDiff, Nat.reduceSub, Int.reduceToNat, byt, Nat.reduceBEq, rows_size] | with_reducible refine lw_of (fun _ => ?_) | with_reducible exact True.intro | with_reducible refine fin_same ?_ | with_reducible refine fin_loc ?_ ?_ ?_ | with_reducible exact Loc.refl _ | with_reducible refine Loc.push ?_ _ _ | with_reducible refine Loc.set ?_ _ _ (by first | omega | (simp only [push_n, set_n]; omega)) | with_reducible refine And.intro (by omega) ?_)
  rename_i hlen
  refine loop_rule (fun n ρ σ' => σ' = σ ∧ ∃ k : Nat, n = l.length - k ∧ k ≤ l.length ∧ ρ 0 = .sl false (rowsPv l) ∧ ρ 1 = .clo f a b ∧ ρ 7 = .int .i64 l.length ∧ ρ 8 = .int .i64 k ∧ ∀ j x, j < k → l[j]? = some x → p x = false) (fun n ρ σ' hI => ?_) ⟨rfl, 0, rfl, by omega, rfl, rfl, rfl, rfl, fun j x h => by omega⟩
  obtain ⟨rfl, k, rfl, hle, h0, h1, h7, h8, hn⟩ := hI
  by_cases hlt : k < l.length
  · have hk : l[k]? = some l[k] := List.getElem?_eq_getElem hlt
    have hag : ∀ r : Row, lds σ' (some 3) (.rptr [.int .i64 r.col, .str r.text, .int .i64 r.at_] 0) = some r.pv := fun r => rfl
    repeat' (first | simp (maxSteps := 1000000) (disch := omega) only [rb0, rb1, rb2, rb3, rb4, rb5, Od.ev, Ao.dst, Nat.reduceEqDiff, ↓reduceIte, reduceIte, reduceCtorEq, Nat.reduceAdd, Nat.reduceLeDiff, Nat.reduceSub, Int.reduceToNat, byt, Nat.reduceBEq, h0, h1, h7, h8, rows_at, hk, row_cells] | with_reducible refine lw_of (fun _ => ?_) | with_reducible exact True.intro | with_reducible refine fin_same ?_ | with_reducible refine fin_loc ?_ ?_ ?_ | with_reducible exact Loc.refl _ | with_reducible refine Loc.push ?_ _ _ | with_reducible refine Loc.set ?_ _ _ (by first | omega | (simp only [push_n, set_n]; omega)) | with_reducible refine And.intro (by omega) ?_)
    have := hp l[k]
    simp only [Row.pv] at this
    refine cw_of this ?_
    repeat' (first | simp (maxSteps := 1000000) (disch := omega) only [rb0, rb1, rb2, rb3, rb4, rb5, Od.ev, Ao.dst, Nat.reduceEqDiff, ↓reduceIte, reduceIte, reduceCtorEq, Nat.reduceAdd, Nat.reduceLeDiff, Nat.reduceSub, Int.reduceToNat, byt, Nat.reduceBEq, h0, h1, h7, h8] | with_reducible refine lw_of (fun _ => ?_) | with_reducible exact True.intro | with_reducible refine fin_same ?_ | with_reducible refine fin_loc ?_ ?_ ?_ | with_reducible exact Loc.refl _ | with_reducible refine Loc.push ?_ _ _ | with_reducible refine Loc.set ?_ _ _ (by first | omega | (simp only [push_n, set_n]; omega)) | with_reducible refine And.intro (by omega) ?_)
    refine bw_split (fun h => ?_) (fun h => ?_)
    · repeat' (first | simp (maxSteps := 1000000) (disch := omega) only [rb0, rb1, rb2, rb3, rb4, rb5, Od.ev, Ao.dst, Nat.reduceEqDiff, ↓reduceIte, reduceIte, reduceCtorEq, Nat.reduceAdd, Nat.reduceLeDiff, Nat.reduceSub, Int.reduceToNat, byt, Nat.reduceBEq, h0, h1, h7, h8] | with_reducible refine lw_of (fun _ => ?_) | with_reducible exact True.intro | with_reducible refine fin_same ?_ | with_reducible refine fin_loc ?_ ?_ ?_ | with_reducible exact Loc.refl _ | with_reducible refine Loc.push ?_ _ _ | with_reducible refine Loc.set ?_ _ _ (by first | omega | (simp only [push_n, set_n]; omega)) | with_reducible refine And.intro (by omega) ?_)
      exact (idx_at hn hk h).symm
    · repeat' (first | simp (maxSteps := 1000000) (disch := omega) only [rb0, rb1, rb2, rb3, rb4, rb5, Od.ev, Ao.dst, Nat.reduceEqDiff, ↓reduceIte, reduceIte, reduceCtorEq, Nat.reduceAdd, Nat.reduceLeDiff, Nat.reduceSub, Int.reduceToNat, byt, Nat.reduceBEq, h0, h1, h7, h8] | with_reducible refine lw_of (fun _ => ?_) | with_reducible exact True.intro | with_reducible refine fin_same ?_ | with_reducible refine fin_loc ?_ ?_ ?_ | with_reducible exact Loc.refl _ | with_reducible refine Loc.push ?_ _ _ | with_reducible refine Loc.set ?_ _ _ (by first | omega | (simp only [push_n, set_n]; omega)) | with_reducible refine And.intro (by omega) ?_)
      refine ⟨_, by omega, k + 1, rfl, by omega, by omega, fun j x hj hx => ?_⟩
      by_cases hjk : j = k
      · subst hjk; rw [hk] at hx; cases hx; exact h
      · exact hn j x (by omega) hx
  · repeat' (first | simp (maxSteps := 1000000) (disch := omega) only [rb0, rb1, rb2, rb3, rb4, rb5, Od.ev, Ao.dst, Nat.reduceEqDiff, ↓reduceIte, reduceIte, reduceCtorEq, Nat.reduceAdd, Nat.reduceLeDiff, Nat.reduceSub, Int.reduceToNat, byt, Nat.reduceBEq, h0, h1, h7, h8] | with_reducible refine lw_of (fun _ => ?_) | with_reducible exact True.intro | with_reducible refine fin_same ?_ | with_reducible refine fin_loc ?_ ?_ ?_ | with_reducible exact Loc.refl _ | with_reducible refine Loc.push ?_ _ _ | with_reducible refine Loc.set ?_ _ _ (by first | omega | (simp only [push_n, set_n]; omega)) | with_reducible refine And.intro (by omega) ?_)
    refine (idx_none fun j x hx => hn j x ?_ hx).symm
    have := (List.getElem?_eq_some_iff.1 hx).1; omega
/-- tree.isEmpty, rows.isEmpty, grommetref02.Empty. -/
def Row.empty (r : Row) : Bool := match r.text with
  | [] => true
  | c :: _ => c == 35
theorem k80 (σ : St) (r : Row) : ARet Tryz.prog G 80 [r.pv] σ (.bool r.empty) σ := by
  refine ret_of has80 (Nat.le_of_ble_eq_true rfl) ?_
  simp only [ir80, Row.pv, Row.empty]
  cases ht : r.text with
  | nil =>
    repeat' (first | simp (maxSteps := 1000000) (disch := omega) only [rb0, rb1, rb2, rb3, rb4, rb5, Od.ev, Ao.dst, Nat.reduceEqDiff, ↓reduceIte, reduceIte, reduceCtorEq, Nat.reduceAdd, Nat.reduceLeDiff, Nat.reduceSub, Int.reduceToNat, byt, Nat.reduceBEq, ht] | with_reducible refine lw_of (fun _ => ?_) | with_reducible exact True.intro | with_reducible refine fin_same ?_ | with_reducible refine fin_loc ?_ ?_ ?_ | with_reducible exact Loc.refl _ | with_reducible refine Loc.push ?_ _ _ | with_reducible refine Loc.set ?_ _ _ (by first | omega | (simp only [push_n, set_n]; omega)) | with_reducible refine And.intro (by omega) ?_)
  | cons c t =>
    repeat' (first | simp (maxSteps := 1000000) (disch := omega) only [rb0, rb1, rb2, rb3, rb4, rb5, Od.ev, Ao.dst, Nat.reduceEqDiff, ↓reduceIte, reduceIte, reduceCtorEq, Nat.reduceAdd, Nat.reduceLeDiff, Nat.reduceSub, Int.reduceToNat, byt, Nat.reduceBEq, ht] | with_reducible refine lw_of (fun _ => ?_) | with_reducible exact True.intro | with_reducible refine fin_same ?_ | with_reducible refine fin_loc ?_ ?_ ?_ | with_reducible exact Loc.refl _ | with_reducible refine Loc.push ?_ _ _ | with_reducible refine Loc.set ?_ _ _ (by first | omega | (simp only [push_n, set_n]; omega)) | with_reducible refine And.intro (by omega) ?_)
    have := u8eq c 35
    by_cases h : c = 35
    · subst h; rfl
    · have h' : ¬ (c.toNat : Int) = 35 := fun e => h (by have := (u8eq c 35).mp e; exact this)
      simp [h, h']
theorem k125 (σ : St) (r : Row) : ARet Tryz.prog G 125 [r.pv] σ (.bool (!r.empty)) σ := by
  refine ret_of has125 (Nat.le_of_ble_eq_true rfl) ?_
  simp only [ir125, Row.pv]
  repeat' (first | simp (maxSteps := 1000000) (disch := omega) only [rb0, rb1, rb2, rb3, rb4, rb5, Od.ev, Ao.dst, Nat.reduceEqDiff, ↓reduceIte, reduceIte, reduceCtorEq, Nat.reduceAdd, Nat.reduceLeDiff, Nat.reduceSub, Int.reduceToNat, byt, Nat.reduceBEq] | with_reducible refine lw_of (fun _ => ?_) | with_reducible exact True.intro | with_reducible refine fin_same ?_ | with_reducible refine fin_loc ?_ ?_ ?_ | with_reducible exact Loc.refl _ | with_reducible refine Loc.push ?_ _ _ | with_reducible refine Loc.set ?_ _ _ (by first | omega | (simp only [push_n, set_n]; omega)) | with_reducible refine And.intro (by omega) ?_)
  refine cw_of (k80 _ r) ?_
  repeat' (first | simp (maxSteps := 1000000) (disch := omega) only [rb0, rb1, rb2, rb3, rb4, rb5, Od.ev, Ao.dst, Nat.reduceEqDiff, ↓reduceIte, reduceIte, reduceCtorEq, Nat.reduceAdd, Nat.reduceLeDiff, Nat.reduceSub, Int.reduceToNat, byt, Nat.reduceBEq] | with_reducible refine lw_of (fun _ => ?_) | with_reducible exact True.intro | with_reducible refine fin_same ?_ | with_reducible refine fin_loc ?_ ?_ ?_ | with_reducible exact Loc.refl _ | with_reducible refine Loc.push ?_ _ _ | with_reducible refine Loc.set ?_ _ _ (by first | omega | (simp only [push_n, set_n]; omega)) | with_reducible refine And.intro (by omega) ?_)
/-- tree.filled. -/
def filled (l : List Row) : List Row := match l.findIdx? fun r => !r.empty with
  | some i => l.drop i
  | none => []
theorem k75 (σ : St) (l : List Row) : ARet Tryz.prog G 75 [.sl false (rowsPv l)] σ (.sl false (rowsPv (filled l))) σ := by
  refine ret_of has75 (Nat.le_of_ble_eq_true rfl) ?_
  simp only [ir75, filled]
  repeat' (first | simp (maxSteps := 1000000) (disch := omega) only [rb0, rb1, rb2, rb3, rb4, rb5, Od.ev, Ao.dst, Nat.reduceEqDiff, ↓reduceIte, reduceIte, reduceCtorEq, Nat.reduceAdd, Nat.reduceLeDiff, Nat.reduceSub, Int.reduceToNat, byt, Nat.reduceBEq] | with_reducible refine lw_of (fun _ => ?_) | with_reducible exact True.intro | with_reducible refine fin_same ?_ | with_reducible refine fin_loc ?_ ?_ ?_ | with_reducible exact Loc.refl _ | with_reducible refine Loc.push ?_ _ _ | with_reducible refine Loc.set ?_ _ _ (by first | omega | (simp only [push_n, set_n]; omega)) | with_reducible refine And.intro (by omega) ?_)
  refine cw_of (k69 _ l 125 [] [] (fun r => !r.empty) fun r => k125 _ r) ?_
  cases h : l.findIdx? fun r => !r.empty with
  | none =>
    have : idx (fun r => !r.empty) l = -1 := by simp [idx, h]
    repeat' (first | simp (maxSteps := 1000000) (disch := omega) only [rb0, rb1, rb2, rb3, rb4, rb5, Od.ev, Ao.dst, Nat.reduceEqDiff, ↓reduceIte, reduceIte, reduceCtorEq, Nat.reduceAdd, Nat.reduceLeDiff, Nat.reduceSub, Int.reduceToNat, byt, Nat.reduceBEq, this] | with_reducible refine lw_of (fun _ => ?_) | with_reducible exact True.intro | with_reducible refine fin_same ?_ | with_reducible refine fin_loc ?_ ?_ ?_ | with_reducible exact Loc.refl _ | with_reducible refine Loc.push ?_ _ _ | with_reducible refine Loc.set ?_ _ _ (by first | omega | (simp only [push_n, set_n]; omega)) | with_reducible refine And.intro (by omega) ?_)
    rfl
  | some i =>
    have : idx (fun r => !r.empty) l = i := by simp [idx, h]
    have hi : i < l.length := (List.findIdx?_eq_some_iff_getElem.1 h).1
    repeat' (first | simp (maxSteps := 1000000) (disch := omega) only [rb0, rb1, rb2, rb3, rb4, rb5, Od.ev, Ao.dst, Nat.reduceEqDiff, ↓reduceIte, reduceIte, reduceCtorEq, Nat.reduceAdd, Nat.reduceLeDiff, Nat.reduceSub, Int.reduceToNat, byt, Nat.reduceBEq, this, rows_len, rows_size, rows_take, rows_drop] | with_reducible refine lw_of (fun _ => ?_) | with_reducible exact True.intro | with_reducible refine fin_same ?_ | with_reducible refine fin_loc ?_ ?_ ?_ | with_reducible exact Loc.refl _ | with_reducible refine Loc.push ?_ _ _ | with_reducible refine Loc.set ?_ _ _ (by first | omega | (simp only [push_n, set_n]; omega)) | with_reducible refine And.intro (by omega) ?_)
end Gx

/- Part Ad0. -/
/- From what a row reads to the calculus's values. -/
set_option linter.unusedSimpArgs false
set_option linter.unusedVariables false
namespace Gx
open Go Go.Proofs Go.RowKit Go.ChangeShapes Go.Deep

instance : Inhabited Row := ⟨⟨0, [], 0⟩⟩
/-- At the start nothing turns. -/
def gz : Gh := ⟨fun _ => none, fun _ => 0, 0⟩

set_option maxRecDepth 100000 in
theorem rows_R {H : Type} {enc : TypeId × Value → H} {W : World} {base : Nat} {v : Value} {d : DataW H} {p : List MemPlace} (hok : Value.okWide Tryz.prog W .any base 33 v) (h : DataW.Trod enc Tryz.prog W 0 (fun _ => true) true 33 v d p) (hsz : ∀ e s, d = .slice e s → e.length ≤ 2 ^ 48) :
    ∃ l : List Row, R gz W (.sl false (rowsPv l)) v := by
  obtain ⟨a0, len0, cap0, rfl⟩ := Go.WideShapes.okWide_slice Tryz.underlying33 hok
  obtain ⟨fuel, hf⟩ := h
  have hcs : (Value.slice a0 len0 cap0).cells.toList = [.slice a0 len0 cap0] := rfl
  rcases open_slice (e := 48) Tryz.underlying33 hf with ⟨hc, _⟩ | ⟨a, len, cap, m, n, D, Pl, hc, hb, hl, hm, hmm, hxx, hi⟩
  · have hc : [Value.slice a0 len0 cap0] = [.slice none 0 0] := hc
    simp only [List.cons.injEq, Value.slice.injEq, and_true] at hc
    obtain ⟨rfl, rfl, rfl⟩ := hc
    exact ⟨[], .slnil false⟩
  · have hc : [Value.slice a0 len0 cap0] = [.slice (some a) len cap] := hc
    simp only [List.cons.injEq, Value.slice.injEq, and_true] at hc
    obtain ⟨rfl, rfl, rfl⟩ := hc
    have hspot : a.spot = none := by
      simp only [Value.okWide, Tryz.underlying33, Cell.okWide, Cell.ok] at hok
      exact hok.2.2.2.1
    have hm' : m = cap0 := by simpa using hmm
    have hcell48 : Tryz.prog.cellsOf 48 = 3 := by kernel_rfl
    have hrow : ∀ i, i < len0 → ∃ r : Row, W.cell? ⟨a.block, a.off + (i * 3 + 0), none⟩ = some (.int .i64 r.col) ∧ (∃ s : ByteArray, W.cell? ⟨a.block, a.off + (i * 3 + 1), none⟩ = some (.string s) ∧ s.data.toList = r.text ∧ s.size ≤ maxLen) ∧ W.cell? ⟨a.block, a.off + (i * 3 + 2), none⟩ = some (.int .i64 r.at_) := by
      intro i hil
      obtain ⟨cs', hcs', htr⟩ := hi i (by omega)
      obtain ⟨y0, y1, y2, n', _, hlen, h0, h1, h2⟩ := trod_struct3 Tryz.underlying48 htr
      rw [hcell48] at hcs' hlen
      obtain ⟨c0, c1, c2, rfl⟩ : ∃ c0 c1 c2, cs' = [c0, c1, c2] := by
        match cs', hlen with
        | [c0, c1, c2], _ => exact ⟨c0, c1, c2, rfl⟩
      have k3 : Tryz.prog.cellsOf 3 = 1 := by kernel_rfl
      have k9 : Tryz.prog.cellsOf 9 = 1 := by kernel_rfl
      simp only [k3, k9, List.drop_zero, List.drop_succ_cons, List.take_succ_cons, List.take_zero] at h0 h1 h2
      obtain ⟨n0, e0, _, _⟩ := DataW.trod_int Tryz.underlying3 h0
      obtain ⟨s1, e1, _, hs1⟩ := DataW.trod_string Tryz.underlying9 h1
      obtain ⟨n2, e2, _, _⟩ := DataW.trod_int Tryz.underlying3 h2
      simp only [List.cons.injEq, and_true] at e0 e1 e2
      subst e0 e1 e2
      obtain ⟨ab, ao, asp⟩ := a
      simp only at hspot
      subst hspot
      have hcc := (World.cells?_some hcs').2.2
      have hadd1 : ∀ o j, (⟨ab, o, none⟩ : Addr).add j = ⟨ab, o + j, none⟩ := fun o j => by unfold Addr.add; split <;> simp_all
      have hadd : ∀ j, ((⟨ab, ao, none⟩ : Addr).add (i * 3)).add j = ⟨ab, ao + (i * 3 + j), none⟩ := fun j => by rw [hadd1, hadd1, Nat.add_assoc]
      have hcell : ∀ j, j < 3 → W.cell? ⟨ab, ao + (i * 3 + j), none⟩ = [Value.int .i64 n0, .string s1, .int .i64 n2][j]? := by
        intro j hj
        rw [← hadd j]; exact hcc j hj
      exact ⟨⟨n0, s1.data.toList, n2⟩, hcell 0 (by omega), ⟨s1, hcell 1 (by omega), rfl, hs1⟩, hcell 2 (by omega)⟩
    obtain ⟨f, hf2⟩ := choose_lt (α := Row) (p := fun i r => W.cell? ⟨a.block, a.off + (i * 3 + 0), none⟩ = some (.int .i64 r.col) ∧ (∃ s : ByteArray, W.cell? ⟨a.block, a.off + (i * 3 + 1), none⟩ = some (.string s) ∧ s.data.toList = r.text ∧ s.size ≤ maxLen) ∧ W.cell? ⟨a.block, a.off + (i * 3 + 2), none⟩ = some (.int .i64 r.at_)) hrow
    refine ⟨(List.range len0).map f, ?_⟩
    have hlen : (rowsPv ((List.range len0).map f)).length = len0 := by simp [rowsPv]
    have hmax : len0 ≤ 2 ^ 48 := by
      have := hsz _ _ (Prod.mk.inj hxx).1
      simpa using this
    have hget : ∀ i, i < len0 → (rowsPv ((List.range len0).map f))[i]? = some (f i).pv := fun i hi => by simp [rowsPv, hi]
    have h3 : ∀ x ∈ rowsPv ((List.range len0).map f), x.cells.length = 3 := fun x hx => by
      obtain ⟨r, _, rfl⟩ := List.mem_map.1 hx
      rfl
    have key : R gz W (.sl false (rowsPv ((List.range len0).map f))) (.slice (some a) (rowsPv ((List.range len0).map f)).length cap0) := by
      refine .sl _ a cap0 3 (fun j => (W.cell? ⟨a.block, a.off + j, none⟩).getD undef) hspot (by omega) (by omega) (by omega) (fun x hx => ⟨h3 x hx, ?_⟩) (fun j hj => ⟨?_, fun k hk => by cases hk⟩) (fun j x hj => ?_)
      · obtain ⟨r, _, rfl⟩ := List.mem_map.1 hx
        rfl
      · rw [hlen] at hj
        have hi : j / 3 < len0 := by omega
        obtain ⟨e0, ⟨s, e1, _, _⟩, e2⟩ := hf2 (j / 3) hi
        have hj3 : j = j / 3 * 3 + j % 3 := by omega
        have hc : ∃ u, W.cell? ⟨a.block, a.off + j, none⟩ = some u := by
          rw [hj3]
          have : j % 3 = 0 ∨ j % 3 = 1 ∨ j % 3 = 2 := by omega
          rcases this with h | h | h <;> rw [h]
          · exact ⟨_, e0⟩
          · exact ⟨_, e1⟩
          · exact ⟨_, e2⟩
        obtain ⟨u, hu⟩ := hc
        rw [hu]; rfl
      · have hjl : j < len0 * 3 := by
          have := (List.getElem?_eq_some_iff.1 hj).1
          rw [flat_len h3, hlen] at this
          exact this
        have hi : j / 3 < len0 := by omega
        have hfg := flat_get h3 (hget (j / 3) hi) (j % 3) (by omega)
        have hj3 : j / 3 * 3 + j % 3 = j := by omega
        rw [hj3, hj] at hfg
        obtain ⟨e0, ⟨s, e1, es, hs⟩, e2⟩ := hf2 (j / 3) hi
        have : j % 3 = 0 ∨ j % 3 = 1 ∨ j % 3 = 2 := by omega
        rcases this with h | h | h
        · have e : a.off + j = a.off + (j / 3 * 3 + 0) := by omega
          rw [h] at hfg
          simp only [Row.pv, Pv.cells, List.getElem?_cons_zero, Option.some.injEq] at hfg
          rw [e, e0, hfg]; exact .int _ _
        · have e : a.off + j = a.off + (j / 3 * 3 + 1) := by omega
          rw [h] at hfg
          simp only [Row.pv, Pv.cells, List.getElem?_cons_succ, List.getElem?_cons_zero, Option.some.injEq] at hfg
          rw [e, e1, hfg]
          refine .str _ _ es ?_
          rw [← es]
          have : s.data.toList.length = s.size := rfl
          have hm63 : maxLen = 2 ^ 63 - 1 := rfl
          omega
        · have e : a.off + j = a.off + (j / 3 * 3 + 2) := by omega
          rw [h] at hfg
          simp only [Row.pv, Pv.cells, List.getElem?_cons_succ, List.getElem?_cons_zero, Option.some.injEq] at hfg
          rw [e, e2, hfg]; exact .int _ _
    rw [hlen] at key
    exact key
end Gx

/- Part W3. -/
/- plain.Number, walked by the kit. -/
namespace Go.Proofs.GxW
open Go.RowKit Go.Shelf
theorem aw {w W : World} (h : W = w ∨ ∃ t, W = Lib.bytesWorld w 5 t) : Below w.heap.size w W := by
  rcases h with rfl | ⟨t, rfl⟩
  · exact Below.refl _ _
  · exact Lib.bytesWorld_below _ _ _
set_option maxHeartbeats 4000000 in
set_option maxRecDepth 100000 in
theorem number_ok (s : ByteArray) (hmax : s.size ≤ 281474976710656) (v : Int) (t : ByteArray) (h : Lib.atoiAll s.data.toList = .ok v) (w : World)
    (hinj : t.toList = s.toList → t = s) (h203 : ∀ W, Below w.heap.size w W → Calls Tryz.prog 203 #[.int .i64 v] W fun e w' => e = .returned (.string t) ∧ Below W.heap.size W w') :
    Calls Tryz.prog 149 #[.string s] w fun e w' => e = .returned (.tuple #[if t = s then .int .i64 v else .int .i64 0, .bool (decide (t = s))]) ∧ Below w.heap.size w w' := by
  go_enter Tryz.func149, Tryz.ntmps149
  go_wp2_with (go_at_call 202; refine (Tryz.strconv_Atoi_ok s (by omega) v h _).mono ?_; rintro e W1 ⟨rfl, hW⟩)
  have hb1 := aw hW
  clear hW
  go_wp2_with (go_at_call 203; refine (h203 _ hb1).mono ?_; rintro e W2 ⟨rfl, hb2⟩)
  all_goals first
    | (exfalso; rename_i h1; have e : t.toList = s.toList := by rw [h]
       simp [e] at h1; done)
    | (exfalso; rename_i h1; exact h (hinj (by simpa using h1)))
    | (go_ret2; exact ⟨rfl, hb1.trans (hb2.mono hb1.size)⟩)
set_option maxHeartbeats 4000000 in
set_option maxRecDepth 100000 in
theorem number_err (s : ByteArray) (n : Int) (te : TypeId) (w : World) (h202 : Calls Tryz.prog 202 #[.string s] w fun e w' => ∃ N, e = .returned (.tuple #[.int .i64 n, .iface te (.pointer (some ⟨N, 0, none⟩))]) ∧ Below w.heap.size w w') :
    Calls Tryz.prog 149 #[.string s] w fun e w' => e = .returned (.tuple #[.int .i64 0, .bool false]) ∧ Below w.heap.size w w' := by
  go_enter Tryz.func149, Tryz.ntmps149
  go_wp2_with (go_at_call 202; refine h202.mono ?_; rintro e W1 ⟨N, rfl, hb1⟩)
  go_wp2

  all_goals (go_ret2; exact ⟨rfl, hb1⟩)
end Go.Proofs.GxW

/- Part K11. -/
/- plain.Number. -/
set_option linter.unusedSimpArgs false
set_option linter.unusedVariables false
namespace Gx
open Go Go.Proofs Go.RowKit
variable {G : Nat → Option Obj}
theorem ba_loop (s : ByteArray) : ∀ (n i : Nat) (r : List UInt8), s.size - i = n → ByteArray.toList.loop s i r = r.reverse ++ s.data.toList.drop i := by
  intro n
  induction n with
  | zero =>
    intro i r h
    unfold ByteArray.toList.loop
    have h1 : s.size ≤ i := by omega
    have h2 : s.data.toList.length = s.size := rfl
    rw [if_neg (by omega), List.drop_eq_nil_of_le (by omega), List.append_nil]
  | succ n ih =>
    intro i r h
    unfold ByteArray.toList.loop
    have h1 : i < s.size := by omega
    have h2 : s.data.toList.length = s.size := rfl
    have h3 : s.data.toList.drop i = s.data.toList[i]'(by omega) :: s.data.toList.drop (i + 1) := List.drop_eq_getElem_cons (by omega)
    have h4 : s.get! i = s.data.toList[i]'(by omega) := by
      have : i < s.data.size := h1
      simp [ByteArray.get!, getElem!_pos s.data i this]
    rw [if_pos h1, ih (i + 1) _ (by omega), h3, h4, List.reverse_cons, List.append_assoc]; rfl
theorem ba_inj {s t : ByteArray} (h : s.toList = t.toList) : s = t := by
  unfold ByteArray.toList at h
  rw [ba_loop s _ 0 _ rfl, ba_loop t _ 0 _ rfl] at h
  simp at h
  cases s; cases t
  simp at h
  rw [h]
/-- strconv's two errors lie in their variables. -/
class Errs (G : Nat → Option Obj) : Prop where
  e3 : ∀ g w, GL G g w → ∃ ev, w.cell? ⟨3, 0, none⟩ = some ev ∧ (ev = .nilIface ∨ ∃ te pe, ev = .iface te pe)
  e4 : ∀ g w, GL G g w → ∃ ev, w.cell? ⟨4, 0, none⟩ = some ev ∧ (ev = .nilIface ∨ ∃ te pe, ev = .iface te pe)
theorem k203 [Laid G] (σ : St) (n : Int) (h0 : -9223372036854775808 ≤ n) (h1 : n ≤ 9223372036854775807) : ARet Tryz.prog G 203 [.int .i64 n] σ (.str (Lib.itoa n)) σ := by
  refine ret_of has203 (Nat.le_of_ble_eq_true rfl) ?_
  simp only [ir203]
  repeat' (first | simp (maxSteps := 1000000) (disch := omega) only [rb0, rb1, rb2, rb3, rb4, rb5, Od.ev, Ao.dst, Nat.reduceEqDiff, ↓reduceIte, reduceIte, reduceCtorEq, Nat.reduceAdd, Nat.reduceLeDiff, Nat.reduceSub, Int.reduceToNat, byt, Nat.reduceBEq] | with_reducible refine lw_of (fun _ => ?_) | with_reducible exact True.intro | with_reducible refine fin_same ?_ | with_reducible refine fin_loc ?_ ?_ ?_ | with_reducible exact Loc.refl _ | with_reducible refine Loc.push ?_ _ _ | with_reducible refine Loc.set ?_ _ _ (by first | omega | (simp only [push_n, set_n]; omega)) | with_reducible refine And.intro (by omega) ?_ | with_reducible refine cw_of (k228 _ _ h0 h1) ?_)
theorem calls_of_int {P : Program} {f : FuncId} {k : IntKind} {n : Int} {r : Pv} (h : ARet P G f [.int k n] (toSt []) r (toSt [])) {W : World} (hw : ∀ b o, G b = some o → W.heap[b]? = some o) :
    Calls P f #[.int k n] W fun e w' => ∃ v, e = .returned v ∧ Below W.heap.size W w' ∧ ∃ g', R g' w' r.shr v := by
  refine Calls.mono (h.2 ⟨fun _ => none, fun _ => 0, 0⟩ W #[.int k n] (fun _ => none) (fun _ => False) (fun b o hb => ⟨rfl, hw b o hb⟩) rfl ⟨rfl, fun t ht => ?_, fun b hb => absurd hb (Nat.not_lt_zero b), fun b hb => absurd hb (Nat.not_lt_zero b), fun p q x hp => (by cases hp), fun p x hp => (by cases hp), fun p x hp => (by cases hp), fun x hx => hx.elim⟩) fun e w' hpost => ?_
  · obtain rfl : t = 0 := by simpa using ht
    exact .sh (.int _ _)
  · obtain ⟨v, rfl, g', own', hI, hE, _⟩ := hpost
    exact ⟨v, rfl, ⟨hE.os, hE.tape, hE.output, hE.size, fun b hb => (hE.froz b hb rfl).2⟩, g', (hI.slot 0 (by simp)).shr⟩
def numR (s : List UInt8) : Pv := match Lib.atoiAll s with
  | .ok v => .tup [if Lib.itoa v = s then .int .i64 v else .int .i64 0, .bool (decide (Lib.itoa v = s))]
  | _ => .tup [.int .i64 0, .bool false]
theorem two_R {g : Gh} {w : World} (a : Int) (b : Bool) : R g w (.tup [.int .i64 a, .bool b]) (.tuple #[.int .i64 a, .bool b]) := .tup _ _ (by simp) fun i x v hx hv => by
  match i with
  | 0 => simp at hx hv; subst hx hv; exact .int _ _
  | 1 => simp at hx hv; subst hx hv; exact .bool _
  | n + 2 => simp at hx
/-- No numeral: an error. -/
theorem atoi_bad (s : ByteArray) (hlim : s.size ≤ 281474976710656) (h1 : ∀ v, Lib.atoiAll s.data.toList ≠ .ok v) (h2 : Lib.atoiAll s.data.toList ≠ .range) (ev : Value) (w : World) (hv : w.cell? ⟨3, 0, none⟩ = some ev) (hev : ev = .nilIface ∨ ∃ te pe, ev = .iface te pe) :
    Calls Tryz.prog 202 #[.string s] w fun e w' => ∃ N, e = .returned (.tuple #[.int .i64 0, .iface 260 (.pointer (some ⟨N, 0, none⟩))]) ∧ Below w.heap.size w w' := by
  cases h : Lib.atoiAll s.data.toList with
  | ok v => exact absurd h (h1 v)
  | range => exact absurd h h2
  | _ => exact (Any.strconv_Atoi_syntax Tryz.laysC172 s hlim h ev w hv hev).mono fun e w' ⟨N, he, _, _, hB⟩ => ⟨N, he, hB⟩
theorem k149 [Laid G] [Errs G] (σ : St) (s : List UInt8) (hs : s.length ≤ 281474976710656) : ARet Tryz.prog G 149 [.str s] σ (numR s) σ := by
  refine aret_str (ent Tryz.func149 (by kernel_rfl)) fun g w s' hG hd hl => ?_
  have hsz : s'.size ≤ 281474976710656 := by
    have : s'.size = s'.data.toList.length := rfl
    rw [this, hd]; exact hs
  unfold numR
  cases h : Lib.atoiAll s with
  | ok v =>
    obtain ⟨vb0, vb1⟩ := Lib.atoiAll_bounds h
    have h203 : ∀ W, Below w.heap.size w W → Calls Tryz.prog 203 #[.int .i64 v] W fun e w' => e = .returned (.string ⟨(Lib.itoa v).toArray⟩) ∧ Below W.heap.size W w' := by
      intro W hB
      refine (calls_of_int (k203 (G := G) (toSt []) v (by omega) (by omega)) (W := W) fun b o hb => ?_).mono ?_
      · obtain ⟨_, h2⟩ := hG b o hb
        rw [hB.block b (Array.getElem?_eq_some_iff.1 h2).1]; exact h2
      · rintro e w' ⟨u, rfl, hB', g', hR⟩
        obtain ⟨t, rfl, ht, _⟩ := R.str_inv (show R g' w' (.str (Lib.itoa v)) u from hR)
        refine ⟨?_, hB'⟩
        congr 2
        cases t with
        | mk d => simp only at ht; rw [← ht]
    refine (GxW.number_ok s' hsz v ⟨(Lib.itoa v).toArray⟩ (by rw [hd]; exact h) w ba_inj h203).mono ?_
    rintro e w' ⟨rfl, hB⟩
    have hst : ((⟨(Lib.itoa v).toArray⟩ : ByteArray) = s') = (Lib.itoa v = s) := by
      rw [← hd]
      cases s' with
      | mk d => simp only [ByteArray.mk.injEq, eq_iff_iff]; constructor
                · intro e; rw [← e]
                · intro e; rw [e]
    refine ⟨_, rfl, hB, ?_⟩
    simp only [hst]
    by_cases hq : Lib.itoa v = s
    · simp only [hq, if_true, decide_true]; exact two_R _ _
    · simp only [hq, if_false, decide_false]; exact two_R _ _
  | range =>
    obtain ⟨ev, h1, h2⟩ := Errs.e4 g w hG
    refine (GxW.number_err s' (Lib.atoiSat s'.data.toList) 260 w ((Tryz.strconv_Atoi_range s' hsz (by rw [hd]; exact h) ev w h1 h2).mono ?_)).mono ?_
    · rintro e w' ⟨N, rfl, _, _, hB⟩; exact ⟨N, rfl, hB⟩
    · rintro e w' ⟨rfl, hB⟩; exact ⟨_, rfl, hB, two_R _ _⟩
  | _ =>
    obtain ⟨ev, h1, h2⟩ := Errs.e3 g w hG
    refine (GxW.number_err s' 0 260 w (atoi_bad s' hsz (by rw [hd, h]; intro v e; cases e) (by rw [hd, h]; intro e; cases e) ev w h1 h2)).mono ?_
    rintro e w' ⟨rfl, hB⟩; exact ⟨_, rfl, hB, two_R _ _⟩
end Gx

/- Part Ad1. -/
/- What the rows' lists give, and the calculus's own tables. -/
set_option linter.unusedSimpArgs false
set_option linter.unusedVariables false
namespace Gx
open Go Go.Proofs Go.RowKit Go.ChangeShapes Go.Lib
open Go.Proofs.YtgbkgdhnfjndgaaGreatDoor

/-- What a world holds where its tables are laid. -/
structure Tabs (W : World) : Prop where
  utf : Lib.Utf8Tabs 1 2 W
  pow : Lib.TabIs Tryz.prog W "internal/strconv.uint64pow10" .u64 Lib.pow10Tab
  e3 : ∃ ev, W.cell? ⟨3, 0, none⟩ = some ev ∧ (ev = .nilIface ∨ ∃ te pe, ev = .iface te pe)
  e4 : ∃ ev, W.cell? ⟨4, 0, none⟩ = some ev ∧ (ev = .nilIface ∨ ∃ te pe, ev = .iface te pe)

theorem gpow : Tryz.prog.globalNamed "internal/strconv.uint64pow10" = some 5 := by kernel_rfl
theorem gsyn : Tryz.prog.globalNamed "strconv.ErrSyntax" = some 3 := by kernel_rfl
theorem gran : Tryz.prog.globalNamed "strconv.ErrRange" = some 4 := by kernel_rfl
theorem tpow : (Tryz.prog.globals[5]?).map (·.type) = some 280 := by kernel_rfl
theorem tsyn : (Tryz.prog.globals[3]?).map (·.type) = some 145 := by kernel_rfl
theorem tran : (Tryz.prog.globals[4]?).map (·.type) = some 145 := by kernel_rfl
theorem c13 : Tryz.prog.cellsOf 233 = 1 := by kernel_rfl
theorem c280 : Tryz.prog.cellsOf 280 = 20 := by kernel_rfl
theorem extra8 : U8Extra Tryz.prog Tryz.lays260_ren := ⟨by kernel_rfl, by kernel_rfl, by kernel_rfl, by kernel_rfl, by kernel_rfl, by kernel_rfl, by kernel_rfl⟩

theorem dFirst : Rows.laid_unicode_utf8_first = firstData := by kernel_rfl
theorem dAccept : (Rows.laid_unicode_utf8_acceptRanges : DataW Unit) = acceptData := by kernel_rfl
theorem dPow : (Rows.laid_internal_strconv_uint64pow10 : DataW Unit) = tabData .u64 pow10Tab := by kernel_rfl
theorem plainAll : (Rows.loadPartsRow.laid.all fun x => x.2.handleName?.isNone) = true := by kernel_rfl

theorem sent_cell {W : World} {n nm : String} {d : DataW Unit} {g : Nat} {ti : TypeId} {ms : Array (String × TypeId)} (h : VarReads Tryz.prog W n (.iface nm d)) (hg : Tryz.prog.globalNamed n = some g) (ht : (Tryz.prog.globals[g]?).map (·.type) = some ti)
    (hi : Tryz.prog.underlying ti = some (.interface ms)) : ∃ ev, W.cell? ⟨g, 0, none⟩ = some ev ∧ (ev = .nilIface ∨ ∃ te pe, ev = .iface te pe) := by
  obtain ⟨g', t, cs, fuel, p, hg', hty, hvar, hd⟩ := h
  obtain rfl := Option.some.inj (hg.symm.trans hg')
  obtain rfl := Option.some.inj (ht.symm.trans hty)
  obtain ⟨_, u, v, e, _⟩ := iface_of_trod hi hd
  refine ⟨.iface u v, ?_, .inr ⟨u, v, rfl⟩⟩
  rw [World.var?_cell hg hvar 0, ← Array.getElem?_toList, e]; rfl

theorem tabs_of {W : World} (h : laidMetH Tryz.prog Rows.loadPartsRow.laid W) : Tabs W := by
  rw [MakeChecks.laidMetH_plain _ _ _ plainAll] at h
  have hm : ∀ n d, (n, d) ∈ Rows.loadPartsRow.laid → VarReads Tryz.prog W n d := fun n d hm => laidMet.reads h hm
  have f1 := hm "unicode/utf8.first" Rows.laid_unicode_utf8_first (by simp [Rows.loadPartsRow])
  have f2 := hm "unicode/utf8.acceptRanges" Rows.laid_unicode_utf8_acceptRanges (by simp [Rows.loadPartsRow])
  have f3 := hm "strconv.ErrSyntax" Rows.laid_strconv_ErrSyntax (by simp [Rows.loadPartsRow])
  have f4 := hm "strconv.ErrRange" Rows.laid_strconv_ErrRange (by simp [Rows.loadPartsRow])
  have f5 := hm "internal/strconv.uint64pow10" Rows.laid_internal_strconv_uint64pow10 (by simp [Rows.loadPartsRow])
  rw [dAccept] at f2
  rw [dPow] at f5
  refine ⟨utf8Tabs_of_readsT (U8Types.of260 Tryz.lays260) extra8 (dFirst ▸ f1) f2, ?_, ?_, ?_⟩
  · obtain ⟨g', t, cs, fuel, p, hg', hty, hvar, hd⟩ := f5
    obtain rfl := Option.some.inj (gpow.symm.trans hg')
    obtain rfl := Option.some.inj (tpow.symm.trans hty)
    unfold TabIs
    have hcs := cells_of_tab (n := 20) (k := .u64) Tryz.underlying280 Tryz.underlying233 c13 c280 hd
    rw [hvar, ← hcs]
  · exact sent_cell f3 gsyn tsyn Tryz.underlying145
  · exact sent_cell f4 gran tran Tryz.underlying145

/-- The blocks of the program's variables, as a world holds them. -/
def gG (W : World) : Nat → Option Obj := fun b => if b < 8 then W.heap[b]? else none
theorem gw_cell {W w : World} {g : Gh} (h : GL (gG W) g w) {b o : Nat} (hb : b < 8) {v : Value} (hc : W.cell? ⟨b, o, none⟩ = some v) : w.cell? ⟨b, o, none⟩ = some v := by
  cases hw : W.heap[b]? with
  | none => simp [World.cell?, hw] at hc
  | some x =>
    have h2 := (h b x (by simp [gG, hb, hw])).2
    rw [← hc]
    simp only [World.cell?, h2, hw]
theorem laid_gw {W : World} (h : Tabs W) : Laid (gG W) where
  utf g w hG := ⟨fun c hc => gw_cell hG (by omega) (h.utf.1 c hc), fun i hi => ⟨gw_cell hG (by omega) (h.utf.2 i hi).1, gw_cell hG (by omega) (h.utf.2 i hi).2⟩⟩
  pow g w hG := by
    have := h.pow
    unfold TabIs World.var? at this ⊢
    rw [gpow] at this ⊢
    simp only [Option.bind_some] at this ⊢
    cases hw : W.heap[5]? with
    | none => simp [hw] at this
    | some x =>
      have h2 := (hG 5 x (by simp [gG, hw])).2
      rw [h2]; rw [hw] at this; exact this
theorem errs_gw {W : World} (h : Tabs W) : Errs (gG W) where
  e3 g w hG := by obtain ⟨ev, h1, h2⟩ := h.e3; exact ⟨ev, gw_cell hG (by omega) h1, h2⟩
  e4 g w hG := by obtain ⟨ev, h1, h2⟩ := h.e4; exact ⟨ev, gw_cell hG (by omega) h1, h2⟩
theorem gl_gz (W : World) : GL (gG W) gz W := fun b o hb => by
  unfold gG at hb
  split at hb
  · exact ⟨rfl, hb⟩
  · cases hb
end Gx

/- Part Ad2. -/
/- From a contract of the calculus to a row's own contract. -/
set_option linter.unusedSimpArgs false
set_option linter.unusedVariables false
namespace Gx
open Go Go.Proofs Go.RowKit Go.ChangeShapes Go.WideShapes Go.Lib
open Go.Proofs.YtgbkgdhnfjndgaaGreatDoor

theorem tryz_laidOut : laidOutB Tryz.prog = true := by kernel_rfl

theorem below_ext {W w' : World} {g' : Gh} (hE : Ext gz W g' w') : Below W.heap.size W w' := ⟨hE.os, hE.tape, hE.output, hE.size, fun b hb => (hE.froz b hb rfl).2⟩

/-- A contract between states that hold nothing, at a world whose arguments read so. -/
theorem calls_of_aret {P : Program} {G : Nat → Option Obj} {f : FuncId} {args : List Pv} {r : Pv} {σ' : St} (h : ARet P G f args (toSt []) r σ') {W : World} (hG : GL G gz W) {vs : Array Value} (hn : vs.size = args.length)
    (hR : ∀ t, t < vs.size → S gz W (args.getD t .un) (vs.getD t undef) none) : Calls P f vs W fun e w' => ∃ v, e = .returned v ∧ Below W.heap.size W w' ∧ ∃ g', R g' w' r.shr v := by
  refine Calls.mono (h.2 gz W vs (fun _ => none) (fun _ => False) hG hn ⟨rfl, fun t ht => hR t ht, fun b hb => absurd hb (Nat.not_lt_zero b), fun b hb => absurd hb (Nat.not_lt_zero b), fun p q x hp => (by cases hp), fun p x hp => (by cases hp), fun p x hp => (by cases hp), fun x hx => hx.elim⟩) fun e w' hpost => ?_
  obtain ⟨v, rfl, g', own', hI, hE, _⟩ := hpost
  exact ⟨v, rfl, below_ext hE, g', (hI.slot 0 (by simp)).shr⟩

set_option maxRecDepth 100000 in
theorem okb (W' : World) : Value.okWide Tryz.prog W' .any 0 4 (.bool true) := okWide_bool_mk (P := Tryz.prog) Tryz.underlying4 true
section
variable {H : Type} {enc : TypeId × Value → H}
theorem trodAll_stays {W W' : World} {sp' : Nat → Bool} : ∀ {ts : List TypeId} {vs : List Value} {ds : List (DataW H)} {ps : List MemPlace}, (∀ t ∈ ts, Tryz.prog.readableRec t = true ∧ t < Tryz.prog.types.size) →
    DataW.TrodAll enc Tryz.prog W 0 (fun _ => true) true ts vs ds ps → (∀ p ∈ ps, W.sameAt W' p) → (∀ p ∈ ps, sp' p.block = true) → DataW.TrodAll enc Tryz.prog W' 0 sp' true ts vs ds ps
  | [], _, _, _, _, h, _, _ => by
    obtain ⟨rfl, rfl, rfl⟩ := trodAll_nil h
    exact trodAll_mk0
  | t :: ts, _, _, _, ht, h, hs, hp => by
    obtain ⟨v, vs1, d, ds1, a, b, rfl, rfl, rfl, h1, h2⟩ := trodAll_cons h
    have h0 := ht t (by simp)
    exact ⟨a, b, WideElems.Trod_stays tryz_laidOut h0.1 h0.2 h1 (fun p hm => hs p (List.mem_append_left _ hm)) (fun p hm => hp p (List.mem_append_left _ hm)),
      trodAll_stays (fun t hm => ht t (List.mem_cons_of_mem _ hm)) h2 (fun p hm => hs p (List.mem_append_right _ hm)) (fun p hm => hp p (List.mem_append_right _ hm)), rfl⟩

set_option maxRecDepth 100000 in
/-- A law's end: it returned true and all that was there is as it was. -/
theorem post_law {f : Func} {s : ChangeSpec} {apart fresh handsOn again : Bool} {W W' : World} {args : Array Value} {ds gs : List (DataW H)} {before : List MemPlace}
    (hW : DataW.Whole enc Tryz.prog f.params.toList s.vars apart W args.toList ds gs before) (hvs : s.vars = []) (hr : f.resultTypes = #[4]) (hs : s.fn H (ds ++ gs) = { results := [.lit (.bool true)], args := ds })
    (ht : ∀ t ∈ f.params.toList, Tryz.prog.readableRec t = true ∧ t < Tryz.prog.types.size) (hB : Below W.heap.size W W') : s.post enc Tryz.prog f apart fresh handsOn again W args (.bool true) W' := by
  have hlt := hW.lt
  have hW' := hW
  obtain ⟨p, q, hA, hV, rfl, hfz, hnd⟩ := hW
  rw [hvs] at hV
  obtain ⟨rfl, rfl⟩ := trodVars_none hV
  have hlt' : ∀ x ∈ p, x.block < W.heap.size := fun x hx => hlt x (by simpa using hx)
  have hargs : ∀ sp : Nat → Bool, (∀ x ∈ p, sp x.block = true) → DataW.TrodAll enc Tryz.prog W' 0 sp true f.params.toList args.toList ds p := fun sp hsp => trodAll_stays ht hA (fun x hx => hB.same (hlt' x hx)) hsp
  have hres : ∀ (b : Nat) (sp : Nat → Bool) (hd : Bool), DataW.TrodAll enc Tryz.prog W' b sp hd f.resultTypes.toList ((Value.bool true).resultList f.resultTypes.size) [.lit (.bool true)] [] := fun b sp hd => by
    rw [hr]
    exact trodAll_cons_mk (shut_bool Tryz.underlying4 _) trodAll_mk0
  have hvars : ∀ sp : Nat → Bool, DataW.TrodVars enc Tryz.prog W' sp s.vars ([] : List (DataW H)) [] := fun sp => by rw [hvs]; exact rfl
  have hok : ∀ (j : Nat) (t : TypeId) (r : Value), f.resultTypes[j]? = some t → ((Value.bool true).resultList f.resultTypes.size)[j]? = some r → Value.okWide Tryz.prog W' .any 0 t r :=
    @ok_one Tryz.prog W' f (.bool true) 4 hr rfl (okb W')
  refine ⟨ds, [], p ++ [], [], p, [], hW', ?_, ?_, ?_, World.keptBut_mono (fun x hx => ⟨hx, ?_⟩) (hB.frame (· ∈ p ++ [])), fun _ => ⟨hok, [.lit (.bool true)] ++ ds, [], ([] ++ p) ++ [], ⟨[] ++ p, [], trodAll_append (hargs _ (fun _ _ => rfl)) (hres _ _ _), hvars _, rfl, ?_, ?_⟩, ?_⟩⟩
  · rw [hs]; exact hres _ _ _
  · rw [hs]; exact hargs _ (fun x hx => by simpa using hlt' x hx)
  · rw [hs]; exact hvars _
  · exact .inr (.inl (by simpa using hx))
  · intro b off hp
    have hp' : MemPlace.cell b off ∈ p := by simpa using hp
    rw [hB.frozen (hlt' _ hp')]
    exact hfz b off (by simpa using hp')
  · intro ha
    have := hnd ha
    simpa using this
  · intro x hx _
    simpa using hx
end
end Gx

/- Part Rf. -/
/- The pieces of the functions that hold a loop over a function. -/
open Go Go.Proofs Gx
namespace Gx
noncomputable section
def Code.fst : Code → Code
  | .seq a _ => a
  | c => c
def Code.snd : Code → Code
  | .seq _ b => b
  | c => c
def Code.inB : Code → Code
  | .block _ c => c
  | c => c
def Code.rfa : Code → Code
  | .rangeFunc _ _ a _ => a
  | c => c
def Code.rfb : Code → Code
  | .rangeFunc _ _ _ b => b
  | c => c
def c62 : Code := Tryz.f62.body.getD .skip
theorem hb62 : Tryz.f62.body = some c62 := by kernel_rfl
def r62 : List Rv := [.t 2]
theorem er62 : cRes Tryz.prog 23 Tryz.f62.results.toList = some r62 := by kernel_rfl
def x62_0 : Code := (Code.fst c62)
def i62_0 : Ic :=
 .reg <|
  .one none (.tk 2 (.c (.sl true []))) <|
  .nil
theorem e62_0 : cCode Tryz.prog [] 23 x62_0 = some i62_0 := by kernel_rfl
def x62_1 : Code := (Code.fst (Code.snd c62))
def i62_1 : Ic :=
 .reg <|
  .one none (.al 3 57 [(.sl true [])]) <|
  .nil
theorem e62_1 : cCode Tryz.prog [] 23 x62_1 = some i62_1 := by kernel_rfl
def x62_2 : Code := (Code.fst (Code.fst (Code.snd (Code.snd c62))))
def i62_2 : Ic :=
 .reg <|
  .one none (.mv 7 (.t 0)) <|
  .one none (.ca (some 8) (.c (.clo 108 [] [])) [(false, (.t 7))]) <|
  .nil
theorem e62_2 : cCode Tryz.prog [] 23 x62_2 = some i62_2 := by kernel_rfl
def a62 : Code := (Code.rfa (Code.inB (Code.snd (Code.fst (Code.snd (Code.snd c62))))))
def b62 : Code := (Code.rfb (Code.inB (Code.snd (Code.fst (Code.snd (Code.snd c62))))))
def ia62 : Ic :=
 .reg <|
  .one none (.tk 4 (.t 9)) <|
  .nil
def ib62 : Ic :=
 .block 1 <|
 .seq (.seq (.reg <|
    .one none (.mv 11 (.t 4)) <|
    .one none (.ca (some 12) (.c (.clo 109 [] [])) [(false, (.t 11)), (false, (.c (.str [10])))]) <|
    .one none (.mv 10 (.t 12)) <|
    .one none (.ex 13 (.t 10) 0) <|
    .one none (.ex 14 (.t 10) 1) <|
    .one none (.tk 5 (.t 13)) <|
    .one none (.tk 6 (.t 14)) <|
    .nil) <|
  .seq (.reg <|
    .one none (.mv 15 (.t 6)) <|
    .nil) <|
  .cond (.t 15) (.reg <|
    .one none (.mv 16 (.t 5)) <|
    .one none (.ca (some 17) (.c (.clo 110 [] [])) [(false, (.t 16)), (false, (.c (.str [13])))]) <|
    .one none (.tk 4 (.t 17)) <|
    .nil) <|
  .skip) <|
 .reg <|
  .one none (.lt 18 (.t 3)) <|
  .one none (.mv 19 (.t 4)) <|
  .one none (.bs 20 9 1 [(.t 19)]) <|
  .one none (.ap 21 9 1 (.t 18) (.t 20)) <|
  .one none (.st 1 (.t 3) (.t 21)) <|
  .nil
theorem ea62 : cCode Tryz.prog [] 23 a62 = some ia62 := by kernel_rfl
theorem eb62 : cCode Tryz.prog [] 23 b62 = some ib62 := by kernel_rfl
theorem na62 : Code.nd a62 = true := by kernel_rfl
theorem nb62 : Code.nd b62 = true := by kernel_rfl
def z62 : Code := (Code.snd (Code.snd (Code.snd c62)))
def iz62 : Ic :=
 .seq (.reg <|
   .one none (.ld 22 none (.t 3)) <|
   .one none (.tk 2 (.t 22)) <|
   .nil) <|
 .ret
theorem ez62 : cCode Tryz.prog [] 23 z62 = some iz62 := by kernel_rfl
-- rf 62 2 block 0 operand 8 params #[9]
def c30 : Code := Tryz.f30.body.getD .skip
theorem hb30 : Tryz.f30.body = some c30 := by kernel_rfl
def r30 : List Rv := [.t 2]
theorem er30 : cRes Tryz.prog 15 Tryz.f30.results.toList = some r30 := by kernel_rfl
def x30_0 : Code := (Code.fst c30)
def i30_0 : Ic :=
 .reg <|
  .one none (.tk 2 (.c (.sl true []))) <|
  .nil
theorem e30_0 : cCode Tryz.prog [] 15 x30_0 = some i30_0 := by kernel_rfl
def x30_1 : Code := (Code.fst (Code.snd c30))
def i30_1 : Ic :=
 .reg <|
  .one none (.al 3 52 [(.sl true [])]) <|
  .nil
theorem e30_1 : cCode Tryz.prog [] 15 x30_1 = some i30_1 := by kernel_rfl
def x30_2 : Code := (Code.fst (Code.fst (Code.snd (Code.snd c30))))
def i30_2 : Ic :=
 .reg <|
  .one none (.mv 6 (.t 0)) <|
  .one none (.ca (some 7) (.c (.clo 40 [] [])) [(false, (.t 6))]) <|
  .nil
theorem e30_2 : cCode Tryz.prog [] 15 x30_2 = some i30_2 := by kernel_rfl
def a30 : Code := (Code.rfa (Code.inB (Code.snd (Code.fst (Code.snd (Code.snd c30))))))
def b30 : Code := (Code.rfb (Code.inB (Code.snd (Code.fst (Code.snd (Code.snd c30))))))
def ia30 : Ic :=
 .reg <|
  .one none (.tk 5 (.t 9)) <|
  .nil
def ib30 : Ic :=
 .block 1 <|
 .reg <|
  .one none (.lt 10 (.t 3)) <|
  .one none (.mv 11 (.t 5)) <|
  .one none (.bs 12 33 1 [(.t 11)]) <|
  .one none (.ap 13 33 1 (.t 10) (.t 12)) <|
  .one none (.st 1 (.t 3) (.t 13)) <|
  .nil
theorem ea30 : cCode Tryz.prog [] 15 a30 = some ia30 := by kernel_rfl
theorem eb30 : cCode Tryz.prog [] 15 b30 = some ib30 := by kernel_rfl
theorem na30 : Code.nd a30 = true := by kernel_rfl
theorem nb30 : Code.nd b30 = true := by kernel_rfl
def z30 : Code := (Code.snd (Code.snd (Code.snd c30)))
def iz30 : Ic :=
 .seq (.reg <|
   .one none (.ld 14 none (.t 3)) <|
   .one none (.tk 2 (.t 14)) <|
   .nil) <|
 .ret
theorem ez30 : cCode Tryz.prog [] 15 z30 = some iz30 := by kernel_rfl
-- rf 30 2 block 0 operand 7 params #[8, 9]
def c15 : Code := Tryz.f15.body.getD .skip
theorem hb15 : Tryz.f15.body = some c15 := by kernel_rfl
def r15 : List Rv := [.cell 2 none, .cell 3 (some 2)]
theorem er15 : cRes Tryz.prog 63 Tryz.f15.results.toList = some r15 := by kernel_rfl
def x15_0 : Code := (Code.fst c15)
def i15_0 : Ic :=
 .reg <|
  .one none (.al 2 22 [(.sl true [])]) <|
  .one none (.al 3 25 [(.int .i64 0), (.int .i64 0)]) <|
  .nil
theorem e15_0 : cCode Tryz.prog [] 63 x15_0 = some i15_0 := by kernel_rfl
def x15_1 : Code := (Code.fst (Code.snd c15))
def i15_1 : Ic :=
 .reg <|
  .one none (.mv 15 (.t 0)) <|
  .one none (.ca (some 16) (.c (.clo 38 [] [])) [(false, (.t 15))]) <|
  .one none (.mv 14 (.t 16)) <|
  .one none (.ex 17 (.t 14) 0) <|
  .one none (.ex 18 (.t 14) 1) <|
  .one none (.al 4 33 [(.sl true [])]) <|
  .one none (.al 5 25 [(.int .i64 0), (.int .i64 0)]) <|
  .one none (.st 1 (.t 4) (.t 17)) <|
  .one none (.st 2 (.t 5) (.t 18)) <|
  .nil
theorem e15_1 : cCode Tryz.prog [] 63 x15_1 = some i15_1 := by kernel_rfl
def x15_2 : Code := (Code.fst (Code.snd (Code.snd c15)))
def i15_2 : Ic :=
 .seq (.reg <|
   .one none (.ld 19 (some 2) (.t 5)) <|
   .one none (.bd 20 [(.int .i64 0), (.int .i64 0)] []) <|
   .one none (.eq 21 true [1, 1] (.t 19) (.t 20)) <|
   .nil) <|
 .cond (.t 21) (.seq (.reg <|
    .any [
      .one none (.ld 22 (some 2) (.t 5)) <|
       .one none (.st 1 (.t 2) (.c (.sl true []))) <|
       .one none (.st 2 (.t 3) (.t 22)) <|
       .nil,
      .one none (.st 1 (.t 2) (.c (.sl true []))) <|
       .one none (.ld 22 (some 2) (.t 5)) <|
       .one none (.st 2 (.t 3) (.t 22)) <|
       .nil]) <|
  .ret) <|
 .skip
theorem e15_2 : cCode Tryz.prog [] 63 x15_2 = some i15_2 := by kernel_rfl
def x15_3 : Code := (Code.fst (Code.snd (Code.snd (Code.snd c15))))
def i15_3 : Ic :=
 .reg <|
  .one none (.al 6 52 [(.sl true [])]) <|
  .nil
theorem e15_3 : cCode Tryz.prog [] 63 x15_3 = some i15_3 := by kernel_rfl
def x15_4 : Code := (Code.fst (Code.fst (Code.snd (Code.snd (Code.snd (Code.snd c15))))))
def i15_4 : Ic :=
 .reg <|
  .one none (.ld 23 none (.t 4)) <|
  .one none (.ca (some 24) (.c (.clo 40 [] [])) [(false, (.t 23))]) <|
  .nil
theorem e15_4 : cCode Tryz.prog [] 63 x15_4 = some i15_4 := by kernel_rfl
def a15 : Code := (Code.rfa (Code.inB (Code.snd (Code.fst (Code.snd (Code.snd (Code.snd (Code.snd c15))))))))
def b15 : Code := (Code.rfb (Code.inB (Code.snd (Code.fst (Code.snd (Code.snd (Code.snd (Code.snd c15))))))))
def ia15 : Ic :=
 .seq (.reg <|
   .one none (.tk 7 (.t 25)) <|
   .nil) <|
 .reg <|
  .one none (.tk 8 (.t 26)) <|
  .nil
def ib15 : Ic :=
 .block 1 <|
 .seq (.seq (.reg <|
    .one none (.ld 27 none (.t 6)) <|
    .one none (.ln 28 false (.t 27)) <|
    .one none (.bi 29 .eql (.t 28) (.c (.int .i64 64))) <|
    .nil) <|
  .cond (.t 29) (.seq (.reg <|
     .one none (.mv 31 (.t 7)) <|
     .one none (.bi 32 .sub (.t 31) (.c (.int .i64 1))) <|
     .any [
       .one none (.ld 30 none (.t 4)) <|
        .one none (.ia 33 3 (.t 30) (.t 32)) <|
        .one none (.fa 34 2 (.t 33)) <|
        .any [
          .one none (.ld 35 none (.t 34)) <|
           .one none (.bd 36 [(.int .i64 0), (.int .i64 0)] [(0, 1, (.c (.int .i64 5))), (1, 1, (.t 35))]) <|
           .one none (.st 1 (.t 2) (.c (.sl true []))) <|
           .one none (.st 2 (.t 3) (.t 36)) <|
           .nil,
          .one none (.st 1 (.t 2) (.c (.sl true []))) <|
           .one none (.ld 35 none (.t 34)) <|
           .one none (.bd 36 [(.int .i64 0), (.int .i64 0)] [(0, 1, (.c (.int .i64 5))), (1, 1, (.t 35))]) <|
           .one none (.st 2 (.t 3) (.t 36)) <|
           .nil],
       .one none (.st 1 (.t 2) (.c (.sl true []))) <|
        .one none (.ld 30 none (.t 4)) <|
        .one none (.ia 33 3 (.t 30) (.t 32)) <|
        .one none (.fa 34 2 (.t 33)) <|
        .one none (.ld 35 none (.t 34)) <|
        .one none (.bd 36 [(.int .i64 0), (.int .i64 0)] [(0, 1, (.c (.int .i64 5))), (1, 1, (.t 35))]) <|
        .one none (.st 2 (.t 3) (.t 36)) <|
        .nil]) <|
   .ret) <|
  .skip) <|
 .reg <|
  .one none (.lt 37 (.t 6)) <|
  .one none (.mv 38 (.t 8)) <|
  .one none (.bs 39 33 1 [(.t 38)]) <|
  .one none (.ap 40 33 1 (.t 37) (.t 39)) <|
  .one none (.st 1 (.t 6) (.t 40)) <|
  .nil
theorem ea15 : cCode Tryz.prog [] 63 a15 = some ia15 := by kernel_rfl
theorem eb15 : cCode Tryz.prog [] 63 b15 = some ib15 := by kernel_rfl
theorem na15 : Code.nd a15 = true := by kernel_rfl
theorem nb15 : Code.nd b15 = true := by kernel_rfl
def z15 : Code := (Code.snd (Code.snd (Code.snd (Code.snd (Code.snd c15)))))
def iz15 : Ic :=
 .seq (.reg <|
   .one none (.tk 9 (.c (.sl true []))) <|
   .nil) <|
 .seq (.seq (.reg <|
    .one none (.ld 41 none (.t 6)) <|
    .one none (.ln 42 false (.t 41)) <|
    .one none (.mv 43 (.c (.int .i64 0))) <|
    .nil) <|
  .block 2 <|
  .loop <|
  .seq (.reg <|
    .one none (.bi 44 .lss (.t 43) (.t 42)) <|
    .nil) <|
  .seq (.cond (.t 44) (.skip) <|
   .exit 2) <|
  .seq (.block 3 <|
   .seq (.reg <|
     .one none (.ia 45 1 (.t 41) (.t 43)) <|
     .one none (.ld 46 none (.t 45)) <|
     .one none (.tk 11 (.t 46)) <|
     .nil) <|
   .seq (.reg <|
     .one none (.mv 48 (.t 11)) <|
     .one none (.ca (some 49) (.c (.clo 20 [] [])) [(false, (.t 48))]) <|
     .one none (.mv 47 (.t 49)) <|
     .one none (.ex 50 (.t 47) 0) <|
     .one none (.ex 51 (.t 47) 1) <|
     .one none (.al 12 30 [(.int .i64 0), (.str []), (.str []), (.sl true [])]) <|
     .one none (.al 13 25 [(.int .i64 0), (.int .i64 0)]) <|
     .one none (.st 4 (.t 12) (.t 50)) <|
     .one none (.st 2 (.t 13) (.t 51)) <|
     .nil) <|
   .seq (.seq (.reg <|
      .one none (.ld 52 (some 2) (.t 13)) <|
      .one none (.bd 53 [(.int .i64 0), (.int .i64 0)] []) <|
      .one none (.eq 54 true [1, 1] (.t 52) (.t 53)) <|
      .nil) <|
    .cond (.t 54) (.seq (.reg <|
       .any [
         .one none (.ld 55 (some 2) (.t 13)) <|
          .one none (.st 1 (.t 2) (.c (.sl true []))) <|
          .one none (.st 2 (.t 3) (.t 55)) <|
          .nil,
         .one none (.st 1 (.t 2) (.c (.sl true []))) <|
          .one none (.ld 55 (some 2) (.t 13)) <|
          .one none (.st 2 (.t 3) (.t 55)) <|
          .nil]) <|
     .ret) <|
    .skip) <|
   .reg <|
    .one none (.tk 56 (.t 9)) <|
    .one none (.ld 57 (some 4) (.t 12)) <|
    .one none (.bs 58 30 4 [(.t 57)]) <|
    .one none (.ap 59 30 4 (.t 56) (.t 58)) <|
    .one none (.tk 9 (.t 59)) <|
    .nil) <|
  .reg <|
   .one none (.bi 60 .add (.t 43) (.c (.int .i64 1))) <|
   .one none (.mv 43 (.t 60)) <|
   .nil) <|
 .seq (.reg <|
   .one none (.mv 61 (.t 9)) <|
   .one none (.bd 62 [(.int .i64 0), (.int .i64 0)] []) <|
   .one none (.st 1 (.t 2) (.t 61)) <|
   .one none (.st 2 (.t 3) (.t 62)) <|
   .nil) <|
 .ret
theorem ez15 : cCode Tryz.prog [] 63 z15 = some iz15 := by kernel_rfl
-- rf 15 4 block 0 operand 24 params #[25, 26]
theorem c62_eq : c62 = .seq x62_0 (.seq x62_1 (.seq (.seq x62_2 (.block 0 (.rangeFunc (.tmp 8) #[9] a62 b62))) z62)) := by kernel_rfl
theorem c30_eq : c30 = .seq x30_0 (.seq x30_1 (.seq (.seq x30_2 (.block 0 (.rangeFunc (.tmp 7) #[8, 9] a30 b30))) z30)) := by kernel_rfl
theorem c15_eq : c15 = .seq x15_0 (.seq x15_1 (.seq x15_2 (.seq x15_3 (.seq (.seq x15_4 (.block 0 (.rangeFunc (.tmp 24) #[25, 26] a15 b15))) z15)))) := by kernel_rfl
def ci162 : Code := Tryz.f162.body.getD .skip
theorem hbi162 : Tryz.f162.body = some ci162 := by kernel_rfl
theorem eci162 : cCode Tryz.prog [] 25 ci162 = some ir162.body := by kernel_rfl
theorem oki162 : okY Tryz.prog 25 ci162 = true := by kernel_rfl
def ci68 : Code := Tryz.f68.body.getD .skip
theorem hbi68 : Tryz.f68.body = some ci68 := by kernel_rfl
theorem eci68 : cCode Tryz.prog [] 43 ci68 = some ir68.body := by kernel_rfl
theorem oki68 : okY Tryz.prog 43 ci68 = true := by kernel_rfl
end
end Gx

/- Part L1. -/
/- A text's lines. -/
set_option linter.unusedSimpArgs false
set_option linter.unusedVariables false
namespace Gx
open Go Go.Proofs Go.RowKit
variable {G : Nat → Option Obj}

/-- The first line with its end, and the rest. -/
def cut1 : List UInt8 → List UInt8 × List UInt8
  | [] => ([], [])
  | c :: cs => if c = 10 then ([c], cs) else (c :: (cut1 cs).1, (cut1 cs).2)
def segsN : Nat → List UInt8 → List (List UInt8)
  | 0, _ => []
  | n + 1, s => if s = [] then [] else (cut1 s).1 :: segsN n (cut1 s).2
/-- A line without its end. -/
def strip (s : List UInt8) : List UInt8 :=
  if ([10] : List UInt8).isSuffixOf s then (if ([13] : List UInt8).isSuffixOf (s.take (s.length - 1)) then (s.take (s.length - 1)).take ((s.take (s.length - 1)).length - 1) else s.take (s.length - 1)) else s
def lines (s : List UInt8) : List (List UInt8) := (segsN s.length s).map strip
theorem cut1_len : ∀ (s : List UInt8), s ≠ [] → (cut1 s).2.length < s.length
  | [], h => absurd rfl h
  | c :: cs, _ => by
    simp only [cut1]
    split
    · simp
    · by_cases h : cs = []
      · subst h; simp [cut1]
      · have := cut1_len cs h; simp; omega
theorem segsN_more : ∀ (n : Nat) (s : List UInt8), s.length ≤ n → segsN n s = segsN s.length s
  | 0, s, h => by have : s = [] := List.eq_nil_of_length_eq_zero (by omega); subst this; rfl
  | n + 1, s, h => by
    by_cases hs : s = []
    · subst hs; rfl
    · obtain ⟨m, hm⟩ : ∃ m, s.length = m + 1 := ⟨s.length - 1, by have := List.length_pos_iff.2 hs; omega⟩
      rw [hm]
      simp only [segsN, hs, if_false]
      have hl := cut1_len s hs
      rw [segsN_more n _ (by omega), segsN_more m _ (by omega)]
theorem segs_cons {s : List UInt8} (h : s ≠ []) : segsN s.length s = (cut1 s).1 :: segsN (cut1 s).2.length (cut1 s).2 := by
  obtain ⟨m, hm⟩ : ∃ m, s.length = m + 1 := ⟨s.length - 1, by have := List.length_pos_iff.2 h; omega⟩
  rw [hm]
  simp only [segsN, h, if_false]
  have hl := cut1_len s h
  rw [segsN_more m _ (by omega)]
theorem ib_nil (c : UInt8) : Lib.indexByte [] c = -1 := by simp [Lib.indexByte]
theorem ib_cons (c : UInt8) (cs : List UInt8) : Lib.indexByte (c :: cs) 10 = if c = 10 then 0 else if Lib.indexByte cs 10 < 0 then -1 else Lib.indexByte cs 10 + 1 := by
  have hg := Lib.indexByte_ge cs 10
  simp only [Lib.indexByte, beq_iff_eq]
  split
  · rfl
  · split <;> split <;> omega
theorem cut1_yes : ∀ {s : List UInt8} {i : Nat}, Lib.indexByte s 10 = i → s.take (i + 1) = (cut1 s).1 ∧ s.drop (i + 1) = (cut1 s).2 ∧ i < s.length
  | [], i, h => by rw [ib_nil] at h; omega
  | c :: cs, i, h => by
    rw [ib_cons] at h
    by_cases hc : c = 10
    · rw [if_pos hc] at h
      obtain rfl : i = 0 := by omega
      simp [cut1, hc]
    · rw [if_neg hc] at h
      split at h
      · omega
      · rename_i hn
        cases i with
        | zero => omega
        | succ i =>
          obtain ⟨h1, h2, h3⟩ := cut1_yes (s := cs) (i := i) (by omega)
          simp [cut1, hc, h1, h2, h3]
theorem cut1_no : ∀ {s : List UInt8}, Lib.indexByte s 10 < 0 → cut1 s = (s, [])
  | [], h => rfl
  | c :: cs, h => by
    rw [ib_cons] at h
    by_cases hc : c = 10
    · rw [if_pos hc] at h; omega
    · rw [if_neg hc] at h
      split at h
      · rename_i hn
        simp [cut1, hc, cut1_no hn]
      · omega

theorem k64c (σ : St) (s : List UInt8) : ARet Tryz.prog G 64 [.str s, .int .u8 10] σ (.int .i64 (Lib.indexByte s 10)) σ := k64 σ s 10
theorem k109c (σ : St) (s : List UInt8) : ARet Tryz.prog G 109 [.str s, .str [10]] σ (.tup [.str (if ([10] : List UInt8).isSuffixOf s then s.take (s.length - 1) else s), .bool (([10] : List UInt8).isSuffixOf s)]) σ := k109 σ s [10]
theorem k110c (σ : St) (s : List UInt8) : ARet Tryz.prog G 110 [.str s, .str [13]] σ (.str (if ([13] : List UInt8).isSuffixOf s then s.take (s.length - 1) else s)) σ := k110 σ s [13]

theorem k108 (σ : St) (s : List UInt8) : ARet Tryz.prog G 108 [.str s] σ (.clo 162 [] [.ptr σ.n 0]) (σ.push 9 [.str s]) := by
  refine ret_of has108 (Nat.le_of_ble_eq_true rfl) ?_
  simp only [ir108]
  repeat' (first | simp (maxSteps := 1000000) (disch := omega) only [rb0, rb1, rb2, rb3, rb4, rb5, Od.ev, Ao.dst, Nat.reduceEqDiff, ↓reduceIte, reduceIte, reduceCtorEq, Nat.reduceAdd, Nat.reduceLeDiff, Nat.reduceSub, Int.reduceToNat, byt, Nat.reduceBEq] | with_reducible refine lw_of (fun _ => ?_) | with_reducible exact True.intro | with_reducible refine fin_same ?_ | with_reducible refine fin_loc ?_ ?_ ?_ | with_reducible exact Loc.refl _ | with_reducible refine Loc.push ?_ _ _ | with_reducible refine Loc.set ?_ _ _ (by first | omega | (simp only [push_n, set_n]; omega)) | with_reducible refine And.intro (by omega) ?_)
  exact fin_keep (by simp (maxSteps := 1000000) (disch := omega) only [rb0, rb1, rb2, rb3, rb4, rb5, Od.ev, Ao.dst, Nat.reduceEqDiff, ↓reduceIte, reduceIte, reduceCtorEq, Nat.reduceAdd, Nat.reduceLeDiff, Nat.reduceSub, Int.reduceToNat, byt, Nat.reduceBEq]) (Keep.refl _ _ _)

theorem byt9 : ((9 : Nat) == byt) = false := rfl
theorem QB_nx (r : Pv) (σ' σ1 : St) (ρ : Env) : QB r σ' .nx ρ σ1 = (r = .bool true ∧ σ' = σ1.at 0) := rfl
theorem at_set (σ : St) (b : Nat) (cs : List Pv) (h : σ.k = 0) : σ.set b cs = (σ.set b cs).at 0 := by simp only [St.at, St.set, h]
theorem all_one (x : Pv) (xs : List Pv) (p : Pv → Prop) (h : ∀ y ∈ xs, p y) (hx : p x) : ∀ y ∈ xs ++ [x], p y := fun y hy => by
  rcases List.mem_append.1 hy with hy | hy
  · exact h y hy
  · rw [List.mem_singleton.1 hy]; exact hx
theorem set_set (σ : St) (b : Nat) (xs ys : List Pv) : (σ.set b xs).set b ys = σ.set b ys := by
  simp only [St.set]; congr 1; funext c; by_cases h : c = b <;> simp [h]
/-- One round: a line more. -/
theorem body62 (σ : St) (ρ : Env) (b : Nat) (s : List UInt8) (out : List Pv) (h3 : (ρ 3).shr = .ptr b 0) (hk : σ.k = 0) (hm : σ.m b = [.sl true out]) (hro : σ.ro b = false) (hlen : out.length + 1 ≤ 2 ^ 32) (hout : ∀ y ∈ out, y.cells.length = 1 ∧ elOk 9 y) :
    YB Tryz.prog G ia62 ib62 [9] ρ [.str s] σ (.bool true) (σ.set b [.sl true (out ++ [.str (strip s)])]) := by
  refine ⟨hk, rfl, ?_⟩
  simp only [ia62, ib62, parEnv]
  repeat' (first | simp (maxSteps := 1000000) (disch := omega) only [rb0, rb1, rb2, rb3, rb4, rb5, Od.ev, Ao.dst, Nat.reduceEqDiff, ↓reduceIte, reduceIte, reduceCtorEq, Nat.reduceAdd, Nat.reduceLeDiff, Nat.reduceSub, Int.reduceToNat, byt, Nat.reduceBEq, h3] | with_reducible refine lw_of (fun _ => ?_) | with_reducible exact True.intro | with_reducible refine fin_same ?_ | with_reducible refine fin_loc ?_ ?_ ?_ | with_reducible exact Loc.refl _ | with_reducible refine Loc.push ?_ _ _ | with_reducible refine Loc.set ?_ _ _ (by first | omega | (simp only [push_n, set_n]; omega)) | with_reducible refine And.intro (by omega) ?_ | with_reducible refine cw_of (k109c _ _) ?_ | with_reducible refine cw_of (k110c _ _) ?_)
  have ho := eq_true hout
  refine bw_split (fun h => ?_) (fun h => ?_)
  · repeat' (first | simp (maxSteps := 1000000) (disch := omega) only [rb0, rb1, rb2, rb3, rb4, rb5, Od.ev, Ao.dst, Nat.reduceEqDiff, ↓reduceIte, reduceIte, reduceCtorEq, Nat.reduceAdd, Nat.reduceLeDiff, Nat.reduceSub, Int.reduceToNat, byt, Nat.reduceBEq, h, h3, hm, hro, ho, QB_nx, List.mem_singleton, forall_eq, List.not_mem_nil, false_implies, implies_true, byt9, List.set_cons_zero] | with_reducible refine lw_of (fun _ => ?_) | with_reducible exact True.intro | with_reducible refine fin_same ?_ | with_reducible refine fin_loc ?_ ?_ ?_ | with_reducible exact Loc.refl _ | with_reducible refine Loc.push ?_ _ _ | with_reducible refine Loc.set ?_ _ _ (by first | omega | (simp only [push_n, set_n]; omega)) | with_reducible refine And.intro (by omega) ?_ | with_reducible refine cw_of (k110c _ _) ?_)
    rw [set_set, ← at_set _ _ _ hk]; simp [strip, h]
  · repeat' (first | simp (maxSteps := 1000000) (disch := omega) only [rb0, rb1, rb2, rb3, rb4, rb5, Od.ev, Ao.dst, Nat.reduceEqDiff, ↓reduceIte, reduceIte, reduceCtorEq, Nat.reduceAdd, Nat.reduceLeDiff, Nat.reduceSub, Int.reduceToNat, byt, Nat.reduceBEq, h, h3, hm, hro, ho, QB_nx, List.mem_singleton, forall_eq, List.not_mem_nil, false_implies, implies_true, byt9, List.set_cons_zero] | with_reducible refine lw_of (fun _ => ?_) | with_reducible exact True.intro | with_reducible refine fin_same ?_ | with_reducible refine fin_loc ?_ ?_ ?_ | with_reducible exact Loc.refl _ | with_reducible refine Loc.push ?_ _ _ | with_reducible refine Loc.set ?_ _ _ (by first | omega | (simp only [push_n, set_n]; omega)) | with_reducible refine And.intro (by omega) ?_)
    rw [set_set, ← at_set _ _ _ hk]; simp [strip, h]
theorem strs_ok (l : List (List UInt8)) (el : Nat) (h : ((el == byt) = false)) : ∀ y ∈ l.map Pv.str, y.cells.length = 1 ∧ elOk el y := by
  intro y hy
  obtain ⟨s, _, rfl⟩ := List.mem_map.1 hy
  exact ⟨rfl, by simp [elOk, Pv.isU8, h]⟩
/-- The two boxes of a loop over a text's lines. -/
structure Two (σ0 σ : St) (b1 b2 : Nat) (x y : Pv) : Prop where
  k : σ.k = 0
  loc : Loc σ0 σ
  m1 : σ.m b1 = [x]
  m2 : σ.m b2 = [y]
  r1 : σ.ro b1 = false
  r2 : σ.ro b2 = false
  g1 : σ0.n ≤ b1
  g2 : σ0.n ≤ b2
  ne : b1 ≠ b2
theorem Two.set1 {σ0 σ : St} {b1 b2 : Nat} {x y : Pv} (h : Two σ0 σ b1 b2 x y) (x' : Pv) : Two σ0 (σ.set b1 [x']) b1 b2 x' y :=
  ⟨h.k, h.loc.set b1 _ h.g1, by simp [St.set], by simp [St.set, h.ne.symm, h.m2], h.r1, h.r2, h.g1, h.g2, h.ne⟩
theorem Two.set2 {σ0 σ : St} {b1 b2 : Nat} {x y : Pv} (h : Two σ0 σ b1 b2 x y) (y' : Pv) : Two σ0 (σ.set b2 [y']) b1 b2 x y' :=
  ⟨h.k, h.loc.set b2 _ h.g2, by simp [St.set, h.ne, h.m1], by simp [St.set], h.r1, h.r2, h.g1, h.g2, h.ne⟩
theorem segs_count : ∀ (n : Nat) (s : List UInt8), (segsN n s).length ≤ n
  | 0, s => by simp [segsN]
  | n + 1, s => by
    simp only [segsN]
    split
    · simp
    · have := segs_count n (cut1 s).2
      simp; omega

theorem it162 {Q : Post} {ρc : Env} {σ0 σ : St} {b1 b2 : Nat} (s : List UInt8) (hs : s.length < 2 ^ 32) (h3 : (ρc 3).shr = .ptr b1 0) (hT : Two σ0 σ b1 b2 (.sl true []) (.str s)) (hn : b2 < σ.n)
    (hfin : ∀ σe, Two σ0 σe b1 b2 (.sl true ((lines s).map .str)) (.str []) → Q .nx (fun t => (ρc t).shr) σe) (l : Nat) (L : Ic → Post → Env → St → Prop) (hL : LRule (CY Tryz.prog G l (YB Tryz.prog G ia62 ib62 [9] ρc)) L) :
    ir162.body.wp (CY Tryz.prog G l (YB Tryz.prog G ia62 ib62 [9] ρc)) L (ItPost Q ρc) (envOf [.clo (ynum + l) [] [], .ptr b2 0]) σ := by
  simp only [ir162]
  repeat' (first | simp (maxSteps := 1000000) (disch := omega) only [rb0, rb1, rb2, rb3, rb4, rb5, Od.ev, Ao.dst, Nat.reduceEqDiff, ↓reduceIte, reduceIte, reduceCtorEq, Nat.reduceAdd, Nat.reduceLeDiff, Nat.reduceSub, Int.reduceToNat, byt, Nat.reduceBEq] | with_reducible refine lw_of (fun _ => ?_) | with_reducible exact True.intro | with_reducible refine fin_same ?_ | with_reducible refine fin_loc ?_ ?_ ?_ | with_reducible exact Loc.refl _ | with_reducible refine Loc.push ?_ _ _ | with_reducible refine Loc.set ?_ _ _ (by first | omega | (simp only [push_n, set_n]; omega)) | with_reducible refine And.intro (by omega) ?_)
  refine hL _ _ (fun n ρ' σ' => ∃ (done : List (List UInt8)) (s' : List UInt8), n = s'.length ∧ Two σ0 σ' b1 b2 (.sl true (done.map .str)) (.str s') ∧ done ++ (segsN s'.length s').map strip = lines s ∧ ρ' 0 = .clo (ynum + l) [] [] ∧ ρ' 1 = .ptr b2 0) ?_ s.length _ _
    ⟨[], s, rfl, hT, rfl, rfl, rfl⟩
  rintro n ρ' σ' ⟨done, s', rfl, hT', hdone, e0, e1⟩
  have hm2 := hT'.m2
  have hr2 := hT'.r2
  repeat' (first | simp (maxSteps := 1000000) (disch := omega) only [rb0, rb1, rb2, rb3, rb4, rb5, Od.ev, Ao.dst, Nat.reduceEqDiff, ↓reduceIte, reduceIte, reduceCtorEq, Nat.reduceAdd, Nat.reduceLeDiff, Nat.reduceSub, Int.reduceToNat, byt, Nat.reduceBEq, e0, e1, hm2, hr2] | with_reducible refine lw_of (fun _ => ?_) | with_reducible exact True.intro | with_reducible refine fin_same ?_ | with_reducible refine fin_loc ?_ ?_ ?_ | with_reducible exact Loc.refl _ | with_reducible refine Loc.push ?_ _ _ | with_reducible refine Loc.set ?_ _ _ (by first | omega | (simp only [push_n, set_n]; omega)) | with_reducible refine And.intro (by omega) ?_)
  refine bw_dec (fun h => ?_) (fun h => ?_)
  · have hne : s' ≠ [] := by intro e; subst e; simp at h
    repeat' (first | simp (maxSteps := 1000000) (disch := omega) only [rb0, rb1, rb2, rb3, rb4, rb5, Od.ev, Ao.dst, Nat.reduceEqDiff, ↓reduceIte, reduceIte, reduceCtorEq, Nat.reduceAdd, Nat.reduceLeDiff, Nat.reduceSub, Int.reduceToNat, byt, Nat.reduceBEq, e0, e1, hm2, hr2] | with_reducible refine lw_of (fun _ => ?_) | with_reducible exact True.intro | with_reducible refine fin_same ?_ | with_reducible refine fin_loc ?_ ?_ ?_ | with_reducible exact Loc.refl _ | with_reducible refine Loc.push ?_ _ _ | with_reducible refine Loc.set ?_ _ _ (by first | omega | (simp only [push_n, set_n]; omega)) | with_reducible refine And.intro (by omega) ?_ | with_reducible refine cw_of (cy_of (k64c _ _) rfl) ?_)
    refine bw_dec (fun hi => ?_) (fun hi => ?_)
    · obtain ⟨i, hi'⟩ : ∃ i : Nat, Lib.indexByte s' 10 = i := ⟨(Lib.indexByte s' 10).toNat, by omega⟩
      obtain ⟨c1, c2, c3⟩ := cut1_yes hi'
      have hw : IntKind.i64.wrap ((i : Int) + 1) = (i : Int) + 1 := wrap64 (by omega)
      have ht : ((i : Int) + 1).toNat = i + 1 := by omega
      rw [hi']
      simp (maxSteps := 1000000) (disch := omega) only [rb0, rb1, rb2, rb3, rb4, rb5, Od.ev, Ao.dst, Nat.reduceEqDiff, ↓reduceIte, reduceIte, reduceCtorEq, Nat.reduceAdd, Nat.reduceLeDiff, Nat.reduceSub, Int.reduceToNat, byt, Nat.reduceBEq, e0, e1, hm2, hr2, hw, ht, c1, c2, List.take_length]
      have hT2 := hT'.set2 (.str (cut1 s').2)
      repeat' (with_reducible refine And.intro ?_ ?_)
      all_goals
        refine cw_of (cy_yield (body62 _ ρc b1 (cut1 s').1 (done.map .str) h3 hT2.k hT2.m1 hT2.r1 ?_ (strs_ok done 9 byt9))) ?_
        · have h1 := congrArg List.length hdone
          have h2 := segs_count s.length s
          rw [segs_cons hne] at h1
          simp only [List.length_append, List.length_map, List.length_cons, lines] at h1 ⊢
          omega
        · repeat' (first | simp (maxSteps := 1000000) (disch := omega) only [rb0, rb1, rb2, rb3, rb4, rb5, Od.ev, Ao.dst, Nat.reduceEqDiff, ↓reduceIte, reduceIte, reduceCtorEq, Nat.reduceAdd, Nat.reduceLeDiff, Nat.reduceSub, Int.reduceToNat, byt, Nat.reduceBEq] | with_reducible refine lw_of (fun _ => ?_) | with_reducible exact True.intro | with_reducible refine fin_same ?_ | with_reducible refine fin_loc ?_ ?_ ?_ | with_reducible exact Loc.refl _ | with_reducible refine Loc.push ?_ _ _ | with_reducible refine Loc.set ?_ _ _ (by first | omega | (simp only [push_n, set_n]; omega)) | with_reducible refine And.intro (by omega) ?_)
          refine ⟨(cut1 s').2.length, cut1_len s' hne, done ++ [strip (cut1 s').1], (cut1 s').2, rfl, ?_, ?_, ?_, ?_⟩
          · simpa using hT2.set1 (.sl true (done.map .str ++ [.str (strip (cut1 s').1)]))
          · rw [← hdone, segs_cons hne]; simp
          · simp (maxSteps := 1000000) (disch := omega) only [rb0, rb1, rb2, rb3, rb4, rb5, Od.ev, Ao.dst, Nat.reduceEqDiff, ↓reduceIte, reduceIte, reduceCtorEq, Nat.reduceAdd, Nat.reduceLeDiff, Nat.reduceSub, Int.reduceToNat, byt, Nat.reduceBEq, e0]
          · simp (maxSteps := 1000000) (disch := omega) only [rb0, rb1, rb2, rb3, rb4, rb5, Od.ev, Ao.dst, Nat.reduceEqDiff, ↓reduceIte, reduceIte, reduceCtorEq, Nat.reduceAdd, Nat.reduceLeDiff, Nat.reduceSub, Int.reduceToNat, byt, Nat.reduceBEq, e1]
    · have hn := cut1_no (s := s') (by omega)
      repeat' (first | simp (maxSteps := 1000000) (disch := omega) only [rb0, rb1, rb2, rb3, rb4, rb5, Od.ev, Ao.dst, Nat.reduceEqDiff, ↓reduceIte, reduceIte, reduceCtorEq, Nat.reduceAdd, Nat.reduceLeDiff, Nat.reduceSub, Int.reduceToNat, byt, Nat.reduceBEq, e0, e1, hm2, hr2] | with_reducible refine lw_of (fun _ => ?_) | with_reducible exact True.intro | with_reducible refine fin_same ?_ | with_reducible refine fin_loc ?_ ?_ ?_ | with_reducible exact Loc.refl _ | with_reducible refine Loc.push ?_ _ _ | with_reducible refine Loc.set ?_ _ _ (by first | omega | (simp only [push_n, set_n]; omega)) | with_reducible refine And.intro (by omega) ?_)
      have hT2 := hT'.set2 (.str [])
      refine cw_of (cy_yield (body62 _ ρc b1 s' (done.map .str) h3 hT2.k hT2.m1 hT2.r1 ?_ (strs_ok done 9 byt9))) ?_
      · have h1 := congrArg List.length hdone
        have h2 := segs_count s.length s
        rw [segs_cons hne] at h1
        simp only [List.length_append, List.length_map, List.length_cons, lines] at h1 ⊢
        omega
      · repeat' (first | simp (maxSteps := 1000000) (disch := omega) only [rb0, rb1, rb2, rb3, rb4, rb5, Od.ev, Ao.dst, Nat.reduceEqDiff, ↓reduceIte, reduceIte, reduceCtorEq, Nat.reduceAdd, Nat.reduceLeDiff, Nat.reduceSub, Int.reduceToNat, byt, Nat.reduceBEq] | with_reducible refine lw_of (fun _ => ?_) | with_reducible exact True.intro | with_reducible refine fin_same ?_ | with_reducible refine fin_loc ?_ ?_ ?_ | with_reducible exact Loc.refl _ | with_reducible refine Loc.push ?_ _ _ | with_reducible refine Loc.set ?_ _ _ (by first | omega | (simp only [push_n, set_n]; omega)) | with_reducible refine And.intro (by omega) ?_)
        refine ⟨0, by omega, done ++ [strip s'], [], rfl, ?_, ?_, ?_, ?_⟩
        · simpa using hT2.set1 (.sl true (done.map .str ++ [.str (strip s')]))
        · rw [← hdone, segs_cons hne, hn]; simp [segsN]
        · simp (maxSteps := 1000000) (disch := omega) only [rb0, rb1, rb2, rb3, rb4, rb5, Od.ev, Ao.dst, Nat.reduceEqDiff, ↓reduceIte, reduceIte, reduceCtorEq, Nat.reduceAdd, Nat.reduceLeDiff, Nat.reduceSub, Int.reduceToNat, byt, Nat.reduceBEq, e0]
        · simp (maxSteps := 1000000) (disch := omega) only [rb0, rb1, rb2, rb3, rb4, rb5, Od.ev, Ao.dst, Nat.reduceEqDiff, ↓reduceIte, reduceIte, reduceCtorEq, Nat.reduceAdd, Nat.reduceLeDiff, Nat.reduceSub, Int.reduceToNat, byt, Nat.reduceBEq, e1]
  · repeat' (first | simp (maxSteps := 1000000) (disch := omega) only [rb0, rb1, rb2, rb3, rb4, rb5, Od.ev, Ao.dst, Nat.reduceEqDiff, ↓reduceIte, reduceIte, reduceCtorEq, Nat.reduceAdd, Nat.reduceLeDiff, Nat.reduceSub, Int.reduceToNat, byt, Nat.reduceBEq, e0, e1, hm2, hr2] | with_reducible refine lw_of (fun _ => ?_) | with_reducible exact True.intro | with_reducible refine fin_same ?_ | with_reducible refine fin_loc ?_ ?_ ?_ | with_reducible exact Loc.refl _ | with_reducible refine Loc.push ?_ _ _ | with_reducible refine Loc.set ?_ _ _ (by first | omega | (simp only [push_n, set_n]; omega)) | with_reducible refine And.intro (by omega) ?_)
    obtain rfl : s' = [] := List.eq_nil_of_length_eq_zero (by omega)
    refine ⟨.inl rfl, ?_⟩
    rw [hT'.k]
    refine hfin σ' ?_
    simpa [segsN, ← hdone] using hT'
end Gx

/- Part L2. -/
/- rows.Lines. -/
set_option linter.unusedSimpArgs false
set_option linter.unusedVariables false
namespace Gx
open Go Go.Proofs Go.RowKit
variable {G : Nat → Option Obj}
theorem D_rt (res : List Rv) (σ : St) (r : Pv) (σ' : St) (ρ : Env) (σ1 : St) : Done res σ r σ' .rt ρ σ1 = Fin res σ r σ' ρ σ1 := rfl
theorem D_nx (res : List Rv) (σ : St) (r : Pv) (σ' : St) (ρ : Env) (σ1 : St) : Done res σ r σ' .nx ρ σ1 = Fin res σ r σ' ρ σ1 := rfl
theorem clean_strs (n : Nat) (l : List (List UInt8)) : cleanL n (l.map .str) = true := by
  rw [cleanL_iff]
  intro x hx
  obtain ⟨s, _, rfl⟩ := List.mem_map.1 hx
  rfl
theorem k62 (σ : St) (s : List UInt8) (hs : s.length < 2 ^ 32) : ARet Tryz.prog G 62 [.str s] σ (.sl false ((lines s).map .str)) σ := by
  refine aret_marks (Nat.le_of_ble_eq_true rfl) Tryz.func62 (by kernel_rfl) hb62 (by rw [Tryz.ntmps62]; exact er62) (by rw [Tryz.ntmps62]; exact Nat.le_of_ble_eq_true rfl) (fun F g w a hG hA => ?_)
  rw [Tryz.ntmps62] at hA ⊢
  rw [c62_eq]
  refine seq_pl e62_0 (Q := Done r62 σ (.sl false ((lines s).map .str)) σ) (fun e a w _ h => .inl h) hG hA ?_
  simp only [i62_0]
  repeat' (first | simp (maxSteps := 1000000) (disch := omega) only [rb0, rb1, rb2, rb3, rb4, rb5, Od.ev, Ao.dst, Nat.reduceEqDiff, ↓reduceIte, reduceIte, reduceCtorEq, Nat.reduceAdd, Nat.reduceLeDiff, Nat.reduceSub, Int.reduceToNat, byt, Nat.reduceBEq] | with_reducible refine lw_of (fun _ => ?_) | with_reducible exact True.intro | with_reducible refine fin_same ?_ | with_reducible refine fin_loc ?_ ?_ ?_ | with_reducible exact Loc.refl _ | with_reducible refine Loc.push ?_ _ _ | with_reducible refine Loc.set ?_ _ _ (by first | omega | (simp only [push_n, set_n]; omega)) | with_reducible refine And.intro (by omega) ?_)
  intro a1 w1 hA1
  refine seq_pl e62_1 (Q := Done r62 σ (.sl false ((lines s).map .str)) σ) (fun e a w _ h => .inl h) hG hA1 ?_
  simp only [i62_1]
  repeat' (first | simp (maxSteps := 1000000) (disch := omega) only [rb0, rb1, rb2, rb3, rb4, rb5, Od.ev, Ao.dst, Nat.reduceEqDiff, ↓reduceIte, reduceIte, reduceCtorEq, Nat.reduceAdd, Nat.reduceLeDiff, Nat.reduceSub, Int.reduceToNat, byt, Nat.reduceBEq] | with_reducible refine lw_of (fun _ => ?_) | with_reducible exact True.intro | with_reducible refine fin_same ?_ | with_reducible refine fin_loc ?_ ?_ ?_ | with_reducible exact Loc.refl _ | with_reducible refine Loc.push ?_ _ _ | with_reducible refine Loc.set ?_ _ _ (by first | omega | (simp only [push_n, set_n]; omega)) | with_reducible refine And.intro (by omega) ?_)
  intro a2 w2 hA2
  refine wp_seq (seq_pl e62_2 (Q := Done r62 σ (.sl false ((lines s).map .str)) σ) (fun e a w hne h => ?_) hG hA2 ?_)
  · cases e with
    | normal => exact absurd rfl hne
    | _ => exact .inl h
  simp only [i62_2]
  repeat' (first | simp (maxSteps := 1000000) (disch := omega) only [rb0, rb1, rb2, rb3, rb4, rb5, Od.ev, Ao.dst, Nat.reduceEqDiff, ↓reduceIte, reduceIte, reduceCtorEq, Nat.reduceAdd, Nat.reduceLeDiff, Nat.reduceSub, Int.reduceToNat, byt, Nat.reduceBEq] | with_reducible refine lw_of (fun _ => ?_) | with_reducible exact True.intro | with_reducible refine fin_same ?_ | with_reducible refine fin_loc ?_ ?_ ?_ | with_reducible exact Loc.refl _ | with_reducible refine Loc.push ?_ _ _ | with_reducible refine Loc.set ?_ _ _ (by first | omega | (simp only [push_n, set_n]; omega)) | with_reducible refine And.intro (by omega) ?_ | with_reducible refine cw_of (k108 _ _) ?_)
  intro a3 w3 hA3
  refine rf_mid (god := .t 8) rfl ea62 eb62 ez62 na62 nb62 (gf := 162) (caps := [.ptr (σ.push 57 [.sl true []]).n 0]) (by simp (maxSteps := 1000000) (disch := omega) only [rb0, rb1, rb2, rb3, rb4, rb5, Od.ev, Ao.dst, Nat.reduceEqDiff, ↓reduceIte, reduceIte, reduceCtorEq, Nat.reduceAdd, Nat.reduceLeDiff, Nat.reduceSub, Int.reduceToNat, byt, Nat.reduceBEq]) (Nat.le_of_ble_eq_true rfl) Tryz.func162 (by kernel_rfl) hbi162 (by rw [Tryz.ntmps162]; exact eci162) (by rw [Tryz.ntmps162]; exact oki162) rfl (by rw [Tryz.ntmps162]; exact Nat.le_of_ble_eq_true rfl)
    (fun l L hL => ?_) hG hA3 (fun e a w h => .inr h)
  refine it162 (σ0 := σ) (σ := ((σ.push 57 [Pv.sl true []]).push 9 [Pv.str s]).at 0) (b1 := σ.n) (b2 := σ.n + 1) s hs (by simp (maxSteps := 1000000) (disch := omega) only [rb0, rb1, rb2, rb3, rb4, rb5, Od.ev, Ao.dst, Nat.reduceEqDiff, ↓reduceIte, reduceIte, reduceCtorEq, Nat.reduceAdd, Nat.reduceLeDiff, Nat.reduceSub, Int.reduceToNat, byt, Nat.reduceBEq]) ⟨rfl, (show Loc σ (((σ.push 57 [Pv.sl true []]).push 9 [Pv.str s]).at 0) from Loc.push (Loc.push (Loc.refl σ) _ _) _ _), by simp [St.at, St.push], by simp [St.at, St.push], by simp [St.at, St.push], by simp [St.at, St.push], Nat.le_refl _, by simp [St.push], by simp [St.push]⟩ (by simp [St.at, St.push]) (fun σe hT => ?_) l L hL
  rw [q_blk_nx, q_then]
  have hm1 := hT.m1
  simp only [iz62, r62]
  repeat' (first | simp (maxSteps := 1000000) (disch := omega) only [rb0, rb1, rb2, rb3, rb4, rb5, Od.ev, Ao.dst, Nat.reduceEqDiff, ↓reduceIte, reduceIte, reduceCtorEq, Nat.reduceAdd, Nat.reduceLeDiff, Nat.reduceSub, Int.reduceToNat, byt, Nat.reduceBEq, hm1, D_rt] | with_reducible refine lw_of (fun _ => ?_) | with_reducible exact True.intro | with_reducible refine fin_same ?_ | with_reducible refine fin_loc ?_ ?_ ?_ | with_reducible exact Loc.refl _ | with_reducible refine Loc.push ?_ _ _ | with_reducible refine Loc.set ?_ _ _ (by first | omega | (simp only [push_n, set_n]; omega)) | with_reducible refine And.intro (by omega) ?_)
  all_goals first
    | exact hT.loc
    | exact clean_strs _ _
end Gx

/- Part E1. -/
/- The documents of rows: load.each. -/
set_option linter.unusedSimpArgs false
set_option linter.unusedVariables false
namespace Gx
open Go Go.Proofs Go.RowKit
variable {G : Nat → Option Obj}

def isMark (r : Row) : Bool := decide (r.col = 0) && decide (r.text = [45, 45, 45])
theorem k70 (σ : St) (r : Row) : ARet Tryz.prog G 70 [r.pv] σ (.bool (isMark r)) σ := by
  refine ret_of has70 (Nat.le_of_ble_eq_true rfl) ?_
  simp only [ir70, Row.pv, isMark]
  by_cases h : r.col = 0
  · repeat' (first | simp (maxSteps := 1000000) (disch := omega) only [rb0, rb1, rb2, rb3, rb4, rb5, Od.ev, Ao.dst, Nat.reduceEqDiff, ↓reduceIte, reduceIte, reduceCtorEq, Nat.reduceAdd, Nat.reduceLeDiff, Nat.reduceSub, Int.reduceToNat, byt, Nat.reduceBEq, h] | with_reducible refine lw_of (fun _ => ?_) | with_reducible exact True.intro | with_reducible refine fin_same ?_ | with_reducible refine fin_loc ?_ ?_ ?_ | with_reducible exact Loc.refl _ | with_reducible refine Loc.push ?_ _ _ | with_reducible refine Loc.set ?_ _ _ (by first | omega | (simp only [push_n, set_n]; omega)) | with_reducible refine And.intro (by omega) ?_)
  · repeat' (first | simp (maxSteps := 1000000) (disch := omega) only [rb0, rb1, rb2, rb3, rb4, rb5, Od.ev, Ao.dst, Nat.reduceEqDiff, ↓reduceIte, reduceIte, reduceCtorEq, Nat.reduceAdd, Nat.reduceLeDiff, Nat.reduceSub, Int.reduceToNat, byt, Nat.reduceBEq, h] | with_reducible refine lw_of (fun _ => ?_) | with_reducible exact True.intro | with_reducible refine fin_same ?_ | with_reducible refine fin_loc ?_ ?_ ?_ | with_reducible exact Loc.refl _ | with_reducible refine Loc.push ?_ _ _ | with_reducible refine Loc.set ?_ _ _ (by first | omega | (simp only [push_n, set_n]; omega)) | with_reducible refine And.intro (by omega) ?_)
theorem k72 (σ : St) (r : Row) : ARet Tryz.prog G 72 [r.pv] σ (.bool (!r.empty)) σ := by
  refine ret_of has72 (Nat.le_of_ble_eq_true rfl) ?_
  simp only [ir72, Row.pv, Row.empty]
  cases ht : r.text with
  | nil => repeat' (first | simp (maxSteps := 1000000) (disch := omega) only [rb0, rb1, rb2, rb3, rb4, rb5, Od.ev, Ao.dst, Nat.reduceEqDiff, ↓reduceIte, reduceIte, reduceCtorEq, Nat.reduceAdd, Nat.reduceLeDiff, Nat.reduceSub, Int.reduceToNat, byt, Nat.reduceBEq, ht] | with_reducible refine lw_of (fun _ => ?_) | with_reducible exact True.intro | with_reducible refine fin_same ?_ | with_reducible refine fin_loc ?_ ?_ ?_ | with_reducible exact Loc.refl _ | with_reducible refine Loc.push ?_ _ _ | with_reducible refine Loc.set ?_ _ _ (by first | omega | (simp only [push_n, set_n]; omega)) | with_reducible refine And.intro (by omega) ?_)
  | cons c t =>
    repeat' (first | simp (maxSteps := 1000000) (disch := omega) only [rb0, rb1, rb2, rb3, rb4, rb5, Od.ev, Ao.dst, Nat.reduceEqDiff, ↓reduceIte, reduceIte, reduceCtorEq, Nat.reduceAdd, Nat.reduceLeDiff, Nat.reduceSub, Int.reduceToNat, byt, Nat.reduceBEq, ht] | with_reducible refine lw_of (fun _ => ?_) | with_reducible exact True.intro | with_reducible refine fin_same ?_ | with_reducible refine fin_loc ?_ ?_ ?_ | with_reducible exact Loc.refl _ | with_reducible refine Loc.push ?_ _ _ | with_reducible refine Loc.set ?_ _ _ (by first | omega | (simp only [push_n, set_n]; omega)) | with_reducible refine And.intro (by omega) ?_)
    by_cases h : c = 35
    · subst h; simp
    · have h' : ¬ (c.toNat : Int) = 35 := fun e => h (by have := (u8eq c 35).mp e; exact this)
      simp [h, h']
theorem idx_ge (p : Row → Bool) (l : List Row) : decide (idx p l ≥ 0) = l.any p := by
  unfold idx
  cases h : l.findIdx? p with
  | none => 
    have := List.findIdx?_eq_none_iff.1 h
    have h2 : l.any p = false := by rw [List.any_eq_false]; intro x hx; simp [this x hx]
    rw [h2]; rfl
  | some i =>
    obtain ⟨hi, hp, _⟩ := List.findIdx?_eq_some_iff_getElem.1 h
    have : l.any p = true := List.any_eq_true.2 ⟨_, List.getElem_mem hi, hp⟩
    rw [this]; simp
theorem k71 (σ : St) (l : List Row) (f : Nat) (a b : List Pv) (p : Row → Bool) (hp : ∀ r : Row, ARet Tryz.prog G f (a ++ [r.pv] ++ b) σ (.bool (p r)) σ) : ARet Tryz.prog G 71 [.sl false (rowsPv l), .clo f a b] σ (.bool (l.any p)) σ := by
  refine ret_of has71 (Nat.le_of_ble_eq_true rfl) ?_
  simp only [ir71]
  repeat' (first | simp (maxSteps := 1000000) (disch := omega) only [rb0, rb1, rb2, rb3, rb4, rb5, Od.ev, Ao.dst, Nat.reduceEqDiff, ↓reduceIte, reduceIte, reduceCtorEq, Nat.reduceAdd, Nat.reduceLeDiff, Nat.reduceSub, Int.reduceToNat, byt, Nat.reduceBEq] | with_reducible refine lw_of (fun _ => ?_) | with_reducible exact True.intro | with_reducible refine fin_same ?_ | with_reducible refine fin_loc ?_ ?_ ?_ | with_reducible exact Loc.refl _ | with_reducible refine Loc.push ?_ _ _ | with_reducible refine Loc.set ?_ _ _ (by first | omega | (simp only [push_n, set_n]; omega)) | with_reducible refine And.intro (by omega) ?_)
  refine cw_of (k69 _ l f a b p hp) ?_
  repeat' (first | simp (maxSteps := 1000000) (disch := omega) only [rb0, rb1, rb2, rb3, rb4, rb5, Od.ev, Ao.dst, Nat.reduceEqDiff, ↓reduceIte, reduceIte, reduceCtorEq, Nat.reduceAdd, Nat.reduceLeDiff, Nat.reduceSub, Int.reduceToNat, byt, Nat.reduceBEq] | with_reducible refine lw_of (fun _ => ?_) | with_reducible exact True.intro | with_reducible refine fin_same ?_ | with_reducible refine fin_loc ?_ ?_ ?_ | with_reducible exact Loc.refl _ | with_reducible refine Loc.push ?_ _ _ | with_reducible refine Loc.set ?_ _ _ (by first | omega | (simp only [push_n, set_n]; omega)) | with_reducible refine And.intro (by omega) ?_)
  exact idx_ge p l
theorem k40 (σ : St) (l : List Row) : ARet Tryz.prog G 40 [.sl false (rowsPv l)] σ (.clo 68 [] [.ptr σ.n 0]) (σ.push 33 [.sl false (rowsPv l)]) := by
  refine ret_of has40 (Nat.le_of_ble_eq_true rfl) ?_
  simp only [ir40]
  repeat' (first | simp (maxSteps := 1000000) (disch := omega) only [rb0, rb1, rb2, rb3, rb4, rb5, Od.ev, Ao.dst, Nat.reduceEqDiff, ↓reduceIte, reduceIte, reduceCtorEq, Nat.reduceAdd, Nat.reduceLeDiff, Nat.reduceSub, Int.reduceToNat, byt, Nat.reduceBEq] | with_reducible refine lw_of (fun _ => ?_) | with_reducible exact True.intro | with_reducible refine fin_same ?_ | with_reducible refine fin_loc ?_ ?_ ?_ | with_reducible exact Loc.refl _ | with_reducible refine Loc.push ?_ _ _ | with_reducible refine Loc.set ?_ _ _ (by first | omega | (simp only [push_n, set_n]; omega)) | with_reducible refine And.intro (by omega) ?_)
  exact fin_keep (by simp (maxSteps := 1000000) (disch := omega) only [rb0, rb1, rb2, rb3, rb4, rb5, Od.ev, Ao.dst, Nat.reduceEqDiff, ↓reduceIte, reduceIte, reduceCtorEq, Nat.reduceAdd, Nat.reduceLeDiff, Nat.reduceSub, Int.reduceToNat, byt, Nat.reduceBEq]) (Keep.refl _ _ _)

/-- How far the first document reaches. -/
def mk1 (l : List Row) : Nat := (l.findIdx? isMark).getD l.length
def eachN : Nat → Nat → List Row → List (Nat × List Row)
  | 0, _, _ => []
  | n + 1, at_, l => (if at_ > 0 || (l.take (mk1 l)).any (fun r => !r.empty) then [(at_, l.take (mk1 l))] else []) ++ (if mk1 l < l.length then eachN n (at_ + mk1 l + 1) (l.drop (mk1 l + 1)) else [])
def eachL (l : List Row) : List (Nat × List Row) := eachN (l.length + 1) 0 l
theorem mk1_le (l : List Row) : mk1 l ≤ l.length := by
  unfold mk1
  cases h : l.findIdx? isMark with
  | none => simp
  | some i => have := (List.findIdx?_eq_some_iff_getElem.1 h).1; simp; omega
theorem eachN_more : ∀ (n : Nat) (k : Nat) (l : List Row), l.length < n → eachN n k l = eachN (l.length + 1) k l
  | 0, k, l, h => by omega
  | n + 1, k, l, h => by
    simp only [eachN]
    congr 1
    split
    · rename_i hm
      rw [eachN_more n _ _ (by simp; omega)]
      by_cases hl : l.length = 0
      · omega
      · rw [eachN_more l.length _ _ (by simp; omega)]
    · rfl
theorem idx_mk (l : List Row) : idx isMark l = if mk1 l < l.length then (mk1 l : Int) else -1 := by
  unfold idx mk1
  cases h : l.findIdx? isMark with
  | none => simp
  | some i => have := (List.findIdx?_eq_some_iff_getElem.1 h).1; simp [this]
theorem byt33 : ((33 : Nat) == byt) = false := rfl
theorem body30 (σ : St) (ρ : Env) (b : Nat) (n : Int) (rows : List Pv) (out : List Pv) (h3 : (ρ 3).shr = .ptr b 0) (hk : σ.k = 0) (hm : σ.m b = [.sl true out]) (hro : σ.ro b = false) (hlen : out.length + 1 ≤ 2 ^ 32) (hout : ∀ y ∈ out, y.cells.length = 1 ∧ elOk 33 y) :
    YB Tryz.prog G ia30 ib30 [8, 9] ρ [.int .i64 n, .sl false rows] σ (.bool true) (σ.set b [.sl true (out ++ [.sl false rows])]) := by
  refine ⟨hk, rfl, ?_⟩
  simp only [ia30, ib30, parEnv]
  have ho := eq_true hout
  repeat' (first | simp (maxSteps := 1000000) (disch := omega) only [rb0, rb1, rb2, rb3, rb4, rb5, Od.ev, Ao.dst, Nat.reduceEqDiff, ↓reduceIte, reduceIte, reduceCtorEq, Nat.reduceAdd, Nat.reduceLeDiff, Nat.reduceSub, Int.reduceToNat, byt, Nat.reduceBEq, h3, hm, hro, ho, QB_nx, List.mem_singleton, forall_eq, List.not_mem_nil, false_implies, implies_true, byt33, List.set_cons_zero] | with_reducible refine lw_of (fun _ => ?_) | with_reducible exact True.intro | with_reducible refine fin_same ?_ | with_reducible refine fin_loc ?_ ?_ ?_ | with_reducible exact Loc.refl _ | with_reducible refine Loc.push ?_ _ _ | with_reducible refine Loc.set ?_ _ _ (by first | omega | (simp only [push_n, set_n]; omega)) | with_reducible refine And.intro (by omega) ?_)
  rw [set_set, ← at_set _ _ _ hk]

/-- The iterator of the documents, whatever the loop's body does. -/
theorem it68 {Y : List Pv → St → Pv → St → Prop} {Q : Post} {ρc : Env} {σ : St} {b2 : Nat} (l : List Row) (hlen : l.length ≤ 2 ^ 32) (J : List (Nat × List Row) → St → Prop) (Stop : St → Prop)
    (hJ : ∀ d σ, J d σ → σ.m b2 = [.sl false (rowsPv l)] ∧ σ.k = 0) (hS : ∀ σ, Stop σ → σ.k ≠ 0)
    (hY : ∀ d x r σ, J d σ → d ++ x :: r = eachL l → (∃ σ', Y [.int .i64 (x.1 : Int), .sl false (rowsPv x.2)] σ (.bool true) σ' ∧ J (d ++ [x]) σ') ∨ (∃ σ', Y [.int .i64 (x.1 : Int), .sl false (rowsPv x.2)] σ (.bool false) σ' ∧ Stop σ'))
    (h0 : J [] σ) (hfin : ∀ σe, J (eachL l) σe ∨ Stop σe → match σe.k with
      | 0 => Q .nx (fun t => (ρc t).shr) σe
      | 1 => Q .rt (fun t => (ρc t).shr) σe
      | k + 2 => Q (.ex k) (fun t => (ρc t).shr) σe)
    (lp : Nat) (L : Ic → Post → Env → St → Prop) (hL : LRule (CY Tryz.prog G lp Y) L) :
    ir68.body.wp (CY Tryz.prog G lp Y) L (ItPost Q ρc) (envOf [.clo (ynum + lp) [] [], .ptr b2 0]) σ := by
  simp only [ir68]
  repeat' (first | simp (maxSteps := 1000000) (disch := omega) only [rb0, rb1, rb2, rb3, rb4, rb5, Od.ev, Ao.dst, Nat.reduceEqDiff, ↓reduceIte, reduceIte, reduceCtorEq, Nat.reduceAdd, Nat.reduceLeDiff, Nat.reduceSub, Int.reduceToNat, byt, Nat.reduceBEq] | with_reducible refine lw_of (fun _ => ?_) | with_reducible exact True.intro | with_reducible refine fin_same ?_ | with_reducible refine fin_loc ?_ ?_ ?_ | with_reducible exact Loc.refl _ | with_reducible refine Loc.push ?_ _ _ | with_reducible refine Loc.set ?_ _ _ (by first | omega | (simp only [push_n, set_n]; omega)) | with_reducible refine And.intro (by omega) ?_)
  refine hL _ _ (fun n ρ' σ' => ∃ (k : Nat) (d : List (Nat × List Row)), n = l.length + 1 - k ∧ k ≤ l.length + 1 ∧ J d σ' ∧ (d ++ if k ≤ l.length then eachN (l.length - k + 1) k (l.drop k) else []) = eachL l ∧ ρ' 0 = .clo (ynum + lp) [] [] ∧ ρ' 1 = .ptr b2 0 ∧ ρ' 3 = .int .i64 k) ?_ (l.length + 1) _ _
    ⟨0, [], rfl, by omega, h0, by simp [eachL], by simp (maxSteps := 1000000) (disch := omega) only [rb0, rb1, rb2, rb3, rb4, rb5, Od.ev, Ao.dst, Nat.reduceEqDiff, ↓reduceIte, reduceIte, reduceCtorEq, Nat.reduceAdd, Nat.reduceLeDiff, Nat.reduceSub, Int.reduceToNat, byt, Nat.reduceBEq], by simp (maxSteps := 1000000) (disch := omega) only [rb0, rb1, rb2, rb3, rb4, rb5, Od.ev, Ao.dst, Nat.reduceEqDiff, ↓reduceIte, reduceIte, reduceCtorEq, Nat.reduceAdd, Nat.reduceLeDiff, Nat.reduceSub, Int.reduceToNat, byt, Nat.reduceBEq], by simp (maxSteps := 1000000) (disch := omega) only [rb0, rb1, rb2, rb3, rb4, rb5, Od.ev, Ao.dst, Nat.reduceEqDiff, ↓reduceIte, reduceIte, reduceCtorEq, Nat.reduceAdd, Nat.reduceLeDiff, Nat.reduceSub, Int.reduceToNat, byt, Nat.reduceBEq]⟩
  rintro n ρ' σ' ⟨k, d, rfl, hk, hJd, hd, e0, e1, e3⟩
  obtain ⟨hm2, hk0⟩ := hJ d σ' hJd
  repeat' (first | simp (maxSteps := 1000000) (disch := omega) only [rb0, rb1, rb2, rb3, rb4, rb5, Od.ev, Ao.dst, Nat.reduceEqDiff, ↓reduceIte, reduceIte, reduceCtorEq, Nat.reduceAdd, Nat.reduceLeDiff, Nat.reduceSub, Int.reduceToNat, byt, Nat.reduceBEq, e0, e1, e3, hm2, rows_size] | with_reducible refine lw_of (fun _ => ?_) | with_reducible exact True.intro | with_reducible refine fin_same ?_ | with_reducible refine fin_loc ?_ ?_ ?_ | with_reducible exact Loc.refl _ | with_reducible refine Loc.push ?_ _ _ | with_reducible refine Loc.set ?_ _ _ (by first | omega | (simp only [push_n, set_n]; omega)) | with_reducible refine And.intro (by omega) ?_)
  refine bw_dec (fun h => ?_) (fun h => ?_)
  · have hkl : k ≤ l.length := by omega
    rw [if_pos hkl] at hd
    repeat' (first | simp (maxSteps := 1000000) (disch := omega) only [rb0, rb1, rb2, rb3, rb4, rb5, Od.ev, Ao.dst, Nat.reduceEqDiff, ↓reduceIte, reduceIte, reduceCtorEq, Nat.reduceAdd, Nat.reduceLeDiff, Nat.reduceSub, Int.reduceToNat, byt, Nat.reduceBEq, e0, e1, e3, hm2, rows_size, rows_len, rows_drop, rows_take] | with_reducible refine lw_of (fun _ => ?_) | with_reducible exact True.intro | with_reducible refine fin_same ?_ | with_reducible refine fin_loc ?_ ?_ ?_ | with_reducible exact Loc.refl _ | with_reducible refine Loc.push ?_ _ _ | with_reducible refine Loc.set ?_ _ _ (by first | omega | (simp only [push_n, set_n]; omega)) | with_reducible refine And.intro (by omega) ?_)
    refine cw_of (cy_of (k69 _ (l.drop k) 70 [] [] isMark fun r => k70 _ r) rfl) ?_
    rw [idx_mk]
    have hmk := mk1_le (l.drop k)
    have hdl : (l.drop k).length = l.length - k := by simp
    obtain ⟨m, hm⟩ : ∃ m, mk1 (l.drop k) = m := ⟨_, rfl⟩
    rw [hm] at hmk ⊢
    have hw1 : IntKind.i64.wrap ((k : Int) + (m : Int)) = (k : Int) + (m : Int) := wrap64 (by omega)
    have hw2 : IntKind.i64.wrap ((m : Int) + 1) = (m : Int) + 1 := wrap64 (by omega)
    have hw3 : IntKind.i64.wrap ((k : Int) + ((m : Int) + 1)) = (k : Int) + ((m : Int) + 1) := wrap64 (by omega)
    have ht1 : ((k : Int) + (m : Int)).toNat = k + m := by omega
    have hpart : (l.take (k + m)).drop k = (l.drop k).take m := by rw [List.drop_take]; simp
    have hstep : eachN (l.length - k + 1) k (l.drop k) = (if k > 0 || ((l.drop k).take m).any (fun r => !r.empty) then [(k, (l.drop k).take m)] else []) ++ (if k + m + 1 ≤ l.length then eachN (l.length - (k + m + 1) + 1) (k + m + 1) (l.drop (k + m + 1)) else []) := by
      have h1 : eachN (l.length - k + 1) k (l.drop k) = (if k > 0 || ((l.drop k).take m).any (fun r => !r.empty) then [(k, (l.drop k).take m)] else []) ++ (if m < (l.drop k).length then eachN (l.length - k) (k + m + 1) ((l.drop k).drop (m + 1)) else []) := by rw [← hm]; rfl
      rw [h1]
      congr 1
      by_cases hml : m < (l.drop k).length
      · rw [if_pos hml, if_pos (by omega), List.drop_drop]
        rw [eachN_more (l.length - k) _ _ (by simp; omega)]
        have e : k + (m + 1) = k + m + 1 := by omega
        rw [e]
        congr 1
        simp
      · rw [if_neg hml, if_neg (by omega)]
    rw [hstep] at hd
    have next : ∀ (d' : List (Nat × List Row)) (σ1 : St), J d' σ1 → (d' ++ if k + m + 1 ≤ l.length then eachN (l.length - (k + m + 1) + 1) (k + m + 1) (l.drop (k + m + 1)) else []) = eachL l →
        ∃ n', n' < l.length + 1 - k ∧ ∃ (k' : Nat) (d : List (Nat × List Row)), n' = l.length + 1 - k' ∧ k' ≤ l.length + 1 ∧ J d σ1 ∧ (d ++ if k' ≤ l.length then eachN (l.length - k' + 1) k' (l.drop k') else []) = eachL l ∧ (k : Int) + ((m : Int) + 1) = (k' : Int) :=
      fun d' σ1 a1 a2 => ⟨_, by omega, k + m + 1, d', rfl, by omega, a1, a2, by omega⟩
    have hX : (if m < (l.drop k).length then (m : Int) else -1) = (if m < l.length - k then (m : Int) else -1) := by rw [hdl]
    rw [hX]
    clear hX hstep
    by_cases hml : m < l.length - k
    all_goals (first | rw [if_pos hml] | rw [if_neg hml])
    all_goals by_cases hk1 : 0 < k
    · have hd1 : d ++ (k, (l.drop k).take m) :: (if k + m + 1 ≤ l.length then eachN (l.length - (k + m + 1) + 1) (k + m + 1) (l.drop (k + m + 1)) else []) = eachL l := by rw [← hd]; simp [hk1]
      repeat' (first | simp (maxSteps := 1000000) (disch := omega) only [rb0, rb1, rb2, rb3, rb4, rb5, Od.ev, Ao.dst, Nat.reduceEqDiff, ↓reduceIte, reduceIte, reduceCtorEq, Nat.reduceAdd, Nat.reduceLeDiff, Nat.reduceSub, Int.reduceToNat, byt, Nat.reduceBEq, e0, e1, e3, hm2, rows_size, rows_len, rows_drop, rows_take, hw1, hw2, hw3, ht1, hpart, hk1] | with_reducible refine lw_of (fun _ => ?_) | with_reducible exact True.intro | with_reducible refine fin_same ?_ | with_reducible refine fin_loc ?_ ?_ ?_ | with_reducible exact Loc.refl _ | with_reducible refine Loc.push ?_ _ _ | with_reducible refine Loc.set ?_ _ _ (by first | omega | (simp only [push_n, set_n]; omega)) | with_reducible refine And.intro (by omega) ?_)
      rcases hY d (k, (l.drop k).take m) _ σ' hJd hd1 with ⟨σ1, hy, hJ1⟩ | ⟨σ1, hy, hst⟩
      · refine cw_of (cy_yield hy) ?_
        repeat' (first | simp (maxSteps := 1000000) (disch := omega) only [rb0, rb1, rb2, rb3, rb4, rb5, Od.ev, Ao.dst, Nat.reduceEqDiff, ↓reduceIte, reduceIte, reduceCtorEq, Nat.reduceAdd, Nat.reduceLeDiff, Nat.reduceSub, Int.reduceToNat, byt, Nat.reduceBEq, e0, e1, e3, hw2, hw3, hk1] | with_reducible refine lw_of (fun _ => ?_) | with_reducible exact True.intro | with_reducible refine fin_same ?_ | with_reducible refine fin_loc ?_ ?_ ?_ | with_reducible exact Loc.refl _ | with_reducible refine Loc.push ?_ _ _ | with_reducible refine Loc.set ?_ _ _ (by first | omega | (simp only [push_n, set_n]; omega)) | with_reducible refine And.intro (by omega) ?_)
        exact next (d ++ [(k, (l.drop k).take m)]) _ hJ1 (by rw [← hd1]; simp)
      · refine cw_of (cy_yield hy) ?_
        repeat' (first | simp (maxSteps := 1000000) (disch := omega) only [rb0, rb1, rb2, rb3, rb4, rb5, Od.ev, Ao.dst, Nat.reduceEqDiff, ↓reduceIte, reduceIte, reduceCtorEq, Nat.reduceAdd, Nat.reduceLeDiff, Nat.reduceSub, Int.reduceToNat, byt, Nat.reduceBEq, e0, e1, e3, hw2, hw3, hk1] | with_reducible refine lw_of (fun _ => ?_) | with_reducible exact True.intro | with_reducible refine fin_same ?_ | with_reducible refine fin_loc ?_ ?_ ?_ | with_reducible exact Loc.refl _ | with_reducible refine Loc.push ?_ _ _ | with_reducible refine Loc.set ?_ _ _ (by first | omega | (simp only [push_n, set_n]; omega)) | with_reducible refine And.intro (by omega) ?_)
        exact ⟨.inr rfl, hfin σ1 (.inr hst)⟩
    · repeat' (first | simp (maxSteps := 1000000) (disch := omega) only [rb0, rb1, rb2, rb3, rb4, rb5, Od.ev, Ao.dst, Nat.reduceEqDiff, ↓reduceIte, reduceIte, reduceCtorEq, Nat.reduceAdd, Nat.reduceLeDiff, Nat.reduceSub, Int.reduceToNat, byt, Nat.reduceBEq, e0, e1, e3, hm2, rows_size, rows_len, rows_drop, rows_take, hw1, hw2, hw3, ht1, hpart, hk1] | with_reducible refine lw_of (fun _ => ?_) | with_reducible exact True.intro | with_reducible refine fin_same ?_ | with_reducible refine fin_loc ?_ ?_ ?_ | with_reducible exact Loc.refl _ | with_reducible refine Loc.push ?_ _ _ | with_reducible refine Loc.set ?_ _ _ (by first | omega | (simp only [push_n, set_n]; omega)) | with_reducible refine And.intro (by omega) ?_)
      refine cw_of (cy_of (k71 _ ((l.drop k).take m) 72 [] [] (fun r => !r.empty) fun r => k72 _ r) rfl) ?_
      by_cases hany : ((l.drop k).take m).any (fun r => !r.empty) = true
      · have hd1 : d ++ (k, (l.drop k).take m) :: (if k + m + 1 ≤ l.length then eachN (l.length - (k + m + 1) + 1) (k + m + 1) (l.drop (k + m + 1)) else []) = eachL l := by rw [← hd, hany]; simp
        rw [hany]
        repeat' (first | simp (maxSteps := 1000000) (disch := omega) only [rb0, rb1, rb2, rb3, rb4, rb5, Od.ev, Ao.dst, Nat.reduceEqDiff, ↓reduceIte, reduceIte, reduceCtorEq, Nat.reduceAdd, Nat.reduceLeDiff, Nat.reduceSub, Int.reduceToNat, byt, Nat.reduceBEq, e0, e1, e3, hm2, hw2, hw3] | with_reducible refine lw_of (fun _ => ?_) | with_reducible exact True.intro | with_reducible refine fin_same ?_ | with_reducible refine fin_loc ?_ ?_ ?_ | with_reducible exact Loc.refl _ | with_reducible refine Loc.push ?_ _ _ | with_reducible refine Loc.set ?_ _ _ (by first | omega | (simp only [push_n, set_n]; omega)) | with_reducible refine And.intro (by omega) ?_)
        rcases hY d (k, (l.drop k).take m) _ σ' hJd hd1 with ⟨σ1, hy, hJ1⟩ | ⟨σ1, hy, hst⟩
        · refine cw_of (cy_yield hy) ?_
          repeat' (first | simp (maxSteps := 1000000) (disch := omega) only [rb0, rb1, rb2, rb3, rb4, rb5, Od.ev, Ao.dst, Nat.reduceEqDiff, ↓reduceIte, reduceIte, reduceCtorEq, Nat.reduceAdd, Nat.reduceLeDiff, Nat.reduceSub, Int.reduceToNat, byt, Nat.reduceBEq, e0, e1, e3, hw2, hw3, hk1] | with_reducible refine lw_of (fun _ => ?_) | with_reducible exact True.intro | with_reducible refine fin_same ?_ | with_reducible refine fin_loc ?_ ?_ ?_ | with_reducible exact Loc.refl _ | with_reducible refine Loc.push ?_ _ _ | with_reducible refine Loc.set ?_ _ _ (by first | omega | (simp only [push_n, set_n]; omega)) | with_reducible refine And.intro (by omega) ?_)
          exact next (d ++ [(k, (l.drop k).take m)]) _ hJ1 (by rw [← hd1]; simp)
        · refine cw_of (cy_yield hy) ?_
          repeat' (first | simp (maxSteps := 1000000) (disch := omega) only [rb0, rb1, rb2, rb3, rb4, rb5, Od.ev, Ao.dst, Nat.reduceEqDiff, ↓reduceIte, reduceIte, reduceCtorEq, Nat.reduceAdd, Nat.reduceLeDiff, Nat.reduceSub, Int.reduceToNat, byt, Nat.reduceBEq, e0, e1, e3, hw2, hw3, hk1] | with_reducible refine lw_of (fun _ => ?_) | with_reducible exact True.intro | with_reducible refine fin_same ?_ | with_reducible refine fin_loc ?_ ?_ ?_ | with_reducible exact Loc.refl _ | with_reducible refine Loc.push ?_ _ _ | with_reducible refine Loc.set ?_ _ _ (by first | omega | (simp only [push_n, set_n]; omega)) | with_reducible refine And.intro (by omega) ?_)
          exact ⟨.inr rfl, hfin σ1 (.inr hst)⟩
      · have hany' : ((l.drop k).take m).any (fun r => !r.empty) = false := by simpa using hany
        rw [hany'] at hd ⊢
        repeat' (first | simp (maxSteps := 1000000) (disch := omega) only [rb0, rb1, rb2, rb3, rb4, rb5, Od.ev, Ao.dst, Nat.reduceEqDiff, ↓reduceIte, reduceIte, reduceCtorEq, Nat.reduceAdd, Nat.reduceLeDiff, Nat.reduceSub, Int.reduceToNat, byt, Nat.reduceBEq, e0, e1, e3, hm2, hw2, hw3] | with_reducible refine lw_of (fun _ => ?_) | with_reducible exact True.intro | with_reducible refine fin_same ?_ | with_reducible refine fin_loc ?_ ?_ ?_ | with_reducible exact Loc.refl _ | with_reducible refine Loc.push ?_ _ _ | with_reducible refine Loc.set ?_ _ _ (by first | omega | (simp only [push_n, set_n]; omega)) | with_reducible refine And.intro (by omega) ?_)
        exact next d _ hJd (by rw [← hd]; simp [hk1])
    · have hw4 : IntKind.i64.wrap ((l.length : Int) - (k : Int)) = (m : Int) := by rw [wrap64 (by omega)]; omega
      have hd1 : d ++ (k, (l.drop k).take m) :: (if k + m + 1 ≤ l.length then eachN (l.length - (k + m + 1) + 1) (k + m + 1) (l.drop (k + m + 1)) else []) = eachL l := by rw [← hd]; simp [hk1]
      repeat' (first | simp (maxSteps := 1000000) (disch := omega) only [rb0, rb1, rb2, rb3, rb4, rb5, Od.ev, Ao.dst, Nat.reduceEqDiff, ↓reduceIte, reduceIte, reduceCtorEq, Nat.reduceAdd, Nat.reduceLeDiff, Nat.reduceSub, Int.reduceToNat, byt, Nat.reduceBEq, e0, e1, e3, hm2, rows_size, rows_len, rows_drop, rows_take, hw1, hw2, hw3, ht1, hpart, hk1, hw4] | with_reducible refine lw_of (fun _ => ?_) | with_reducible exact True.intro | with_reducible refine fin_same ?_ | with_reducible refine fin_loc ?_ ?_ ?_ | with_reducible exact Loc.refl _ | with_reducible refine Loc.push ?_ _ _ | with_reducible refine Loc.set ?_ _ _ (by first | omega | (simp only [push_n, set_n]; omega)) | with_reducible refine And.intro (by omega) ?_)
      rcases hY d (k, (l.drop k).take m) _ σ' hJd hd1 with ⟨σ1, hy, hJ1⟩ | ⟨σ1, hy, hst⟩
      · refine cw_of (cy_yield hy) ?_
        repeat' (first | simp (maxSteps := 1000000) (disch := omega) only [rb0, rb1, rb2, rb3, rb4, rb5, Od.ev, Ao.dst, Nat.reduceEqDiff, ↓reduceIte, reduceIte, reduceCtorEq, Nat.reduceAdd, Nat.reduceLeDiff, Nat.reduceSub, Int.reduceToNat, byt, Nat.reduceBEq, e0, e1, e3, hw2, hw3, hk1] | with_reducible refine lw_of (fun _ => ?_) | with_reducible exact True.intro | with_reducible refine fin_same ?_ | with_reducible refine fin_loc ?_ ?_ ?_ | with_reducible exact Loc.refl _ | with_reducible refine Loc.push ?_ _ _ | with_reducible refine Loc.set ?_ _ _ (by first | omega | (simp only [push_n, set_n]; omega)) | with_reducible refine And.intro (by omega) ?_)
        exact next (d ++ [(k, (l.drop k).take m)]) _ hJ1 (by rw [← hd1]; simp)
      · refine cw_of (cy_yield hy) ?_
        repeat' (first | simp (maxSteps := 1000000) (disch := omega) only [rb0, rb1, rb2, rb3, rb4, rb5, Od.ev, Ao.dst, Nat.reduceEqDiff, ↓reduceIte, reduceIte, reduceCtorEq, Nat.reduceAdd, Nat.reduceLeDiff, Nat.reduceSub, Int.reduceToNat, byt, Nat.reduceBEq, e0, e1, e3, hw2, hw3, hk1] | with_reducible refine lw_of (fun _ => ?_) | with_reducible exact True.intro | with_reducible refine fin_same ?_ | with_reducible refine fin_loc ?_ ?_ ?_ | with_reducible exact Loc.refl _ | with_reducible refine Loc.push ?_ _ _ | with_reducible refine Loc.set ?_ _ _ (by first | omega | (simp only [push_n, set_n]; omega)) | with_reducible refine And.intro (by omega) ?_)
        exact ⟨.inr rfl, hfin σ1 (.inr hst)⟩
    · have hw4 : IntKind.i64.wrap ((l.length : Int) - (k : Int)) = (m : Int) := by rw [wrap64 (by omega)]; omega
      repeat' (first | simp (maxSteps := 1000000) (disch := omega) only [rb0, rb1, rb2, rb3, rb4, rb5, Od.ev, Ao.dst, Nat.reduceEqDiff, ↓reduceIte, reduceIte, reduceCtorEq, Nat.reduceAdd, Nat.reduceLeDiff, Nat.reduceSub, Int.reduceToNat, byt, Nat.reduceBEq, e0, e1, e3, hm2, rows_size, rows_len, rows_drop, rows_take, hw1, hw2, hw3, ht1, hpart, hk1, hw4] | with_reducible refine lw_of (fun _ => ?_) | with_reducible exact True.intro | with_reducible refine fin_same ?_ | with_reducible refine fin_loc ?_ ?_ ?_ | with_reducible exact Loc.refl _ | with_reducible refine Loc.push ?_ _ _ | with_reducible refine Loc.set ?_ _ _ (by first | omega | (simp only [push_n, set_n]; omega)) | with_reducible refine And.intro (by omega) ?_)
      refine cw_of (cy_of (k71 _ ((l.drop k).take m) 72 [] [] (fun r => !r.empty) fun r => k72 _ r) rfl) ?_
      by_cases hany : ((l.drop k).take m).any (fun r => !r.empty) = true
      · have hd1 : d ++ (k, (l.drop k).take m) :: (if k + m + 1 ≤ l.length then eachN (l.length - (k + m + 1) + 1) (k + m + 1) (l.drop (k + m + 1)) else []) = eachL l := by rw [← hd, hany]; simp
        rw [hany]
        repeat' (first | simp (maxSteps := 1000000) (disch := omega) only [rb0, rb1, rb2, rb3, rb4, rb5, Od.ev, Ao.dst, Nat.reduceEqDiff, ↓reduceIte, reduceIte, reduceCtorEq, Nat.reduceAdd, Nat.reduceLeDiff, Nat.reduceSub, Int.reduceToNat, byt, Nat.reduceBEq, e0, e1, e3, hm2, hw2, hw3] | with_reducible refine lw_of (fun _ => ?_) | with_reducible exact True.intro | with_reducible refine fin_same ?_ | with_reducible refine fin_loc ?_ ?_ ?_ | with_reducible exact Loc.refl _ | with_reducible refine Loc.push ?_ _ _ | with_reducible refine Loc.set ?_ _ _ (by first | omega | (simp only [push_n, set_n]; omega)) | with_reducible refine And.intro (by omega) ?_)
        rcases hY d (k, (l.drop k).take m) _ σ' hJd hd1 with ⟨σ1, hy, hJ1⟩ | ⟨σ1, hy, hst⟩
        · refine cw_of (cy_yield hy) ?_
          repeat' (first | simp (maxSteps := 1000000) (disch := omega) only [rb0, rb1, rb2, rb3, rb4, rb5, Od.ev, Ao.dst, Nat.reduceEqDiff, ↓reduceIte, reduceIte, reduceCtorEq, Nat.reduceAdd, Nat.reduceLeDiff, Nat.reduceSub, Int.reduceToNat, byt, Nat.reduceBEq, e0, e1, e3, hw2, hw3, hk1] | with_reducible refine lw_of (fun _ => ?_) | with_reducible exact True.intro | with_reducible refine fin_same ?_ | with_reducible refine fin_loc ?_ ?_ ?_ | with_reducible exact Loc.refl _ | with_reducible refine Loc.push ?_ _ _ | with_reducible refine Loc.set ?_ _ _ (by first | omega | (simp only [push_n, set_n]; omega)) | with_reducible refine And.intro (by omega) ?_)
          exact next (d ++ [(k, (l.drop k).take m)]) _ hJ1 (by rw [← hd1]; simp)
        · refine cw_of (cy_yield hy) ?_
          repeat' (first | simp (maxSteps := 1000000) (disch := omega) only [rb0, rb1, rb2, rb3, rb4, rb5, Od.ev, Ao.dst, Nat.reduceEqDiff, ↓reduceIte, reduceIte, reduceCtorEq, Nat.reduceAdd, Nat.reduceLeDiff, Nat.reduceSub, Int.reduceToNat, byt, Nat.reduceBEq, e0, e1, e3, hw2, hw3, hk1] | with_reducible refine lw_of (fun _ => ?_) | with_reducible exact True.intro | with_reducible refine fin_same ?_ | with_reducible refine fin_loc ?_ ?_ ?_ | with_reducible exact Loc.refl _ | with_reducible refine Loc.push ?_ _ _ | with_reducible refine Loc.set ?_ _ _ (by first | omega | (simp only [push_n, set_n]; omega)) | with_reducible refine And.intro (by omega) ?_)
          exact ⟨.inr rfl, hfin σ1 (.inr hst)⟩
      · have hany' : ((l.drop k).take m).any (fun r => !r.empty) = false := by simpa using hany
        rw [hany'] at hd ⊢
        repeat' (first | simp (maxSteps := 1000000) (disch := omega) only [rb0, rb1, rb2, rb3, rb4, rb5, Od.ev, Ao.dst, Nat.reduceEqDiff, ↓reduceIte, reduceIte, reduceCtorEq, Nat.reduceAdd, Nat.reduceLeDiff, Nat.reduceSub, Int.reduceToNat, byt, Nat.reduceBEq, e0, e1, e3, hm2, hw2, hw3] | with_reducible refine lw_of (fun _ => ?_) | with_reducible exact True.intro | with_reducible refine fin_same ?_ | with_reducible refine fin_loc ?_ ?_ ?_ | with_reducible exact Loc.refl _ | with_reducible refine Loc.push ?_ _ _ | with_reducible refine Loc.set ?_ _ _ (by first | omega | (simp only [push_n, set_n]; omega)) | with_reducible refine And.intro (by omega) ?_)
        exact next d _ hJd (by rw [← hd]; simp [hk1])
  · repeat' (first | simp (maxSteps := 1000000) (disch := omega) only [rb0, rb1, rb2, rb3, rb4, rb5, Od.ev, Ao.dst, Nat.reduceEqDiff, ↓reduceIte, reduceIte, reduceCtorEq, Nat.reduceAdd, Nat.reduceLeDiff, Nat.reduceSub, Int.reduceToNat, byt, Nat.reduceBEq, e0, e1, e3, hm2, rows_size] | with_reducible refine lw_of (fun _ => ?_) | with_reducible exact True.intro | with_reducible refine fin_same ?_ | with_reducible refine fin_loc ?_ ?_ ?_ | with_reducible exact Loc.refl _ | with_reducible refine Loc.push ?_ _ _ | with_reducible refine Loc.set ?_ _ _ (by first | omega | (simp only [push_n, set_n]; omega)) | with_reducible refine And.intro (by omega) ?_)
    rw [if_neg (by omega)] at hd
    refine ⟨.inl rfl, ?_⟩
    refine hfin σ' (.inl ?_)
    rw [← hd]; simpa using hJd
end Gx

/- Part E2. -/
/- load.Parts. -/
set_option linter.unusedSimpArgs false
set_option linter.unusedVariables false
namespace Gx
open Go Go.Proofs Go.RowKit
variable {G : Nat → Option Obj}
def partPv (x : List Row) : Pv := .sl false (rowsPv x)
def parts (l : List Row) : List (List Row) := (eachL l).map (·.2)
theorem eachN_len : ∀ (n k : Nat) (l : List Row), (eachN n k l).length ≤ n
  | 0, k, l => by simp [eachN]
  | n + 1, k, l => by
    simp only [eachN, List.length_append]
    have h1 : (if k > 0 || (l.take (mk1 l)).any (fun r => !r.empty) then [(k, l.take (mk1 l))] else []).length ≤ 1 := by split <;> simp
    have h2 : (if mk1 l < l.length then eachN n (k + mk1 l + 1) (l.drop (mk1 l + 1)) else []).length ≤ n := by
      split
      · exact eachN_len n _ _
      · simp
    omega
theorem parts_ok (l : List (List Row)) : ∀ y ∈ l.map partPv, y.cells.length = 1 ∧ elOk 33 y := by
  intro y hy
  obtain ⟨s, _, rfl⟩ := List.mem_map.1 hy
  exact ⟨rfl, by simp [elOk, Pv.isU8, partPv, byt33]⟩
theorem clean_row (n : Nat) (r : Row) : clean n r.pv = true := by simp [Row.pv, clean, cleanL]
theorem clean_rows (n : Nat) (l : List Row) : cleanL n (rowsPv l) = true := by
  rw [cleanL_iff]
  intro x hx
  obtain ⟨s, _, rfl⟩ := List.mem_map.1 hx
  exact clean_row n s
theorem clean_parts (n : Nat) (l : List (List Row)) : cleanL n (l.map partPv) = true := by
  rw [cleanL_iff]
  intro x hx
  obtain ⟨s, _, rfl⟩ := List.mem_map.1 hx
  exact clean_rows n s

theorem k30 (σ : St) (l : List Row) (hs : l.length < 2 ^ 32 - 1) : ARet Tryz.prog G 30 [.sl false (rowsPv l)] σ (.sl false ((parts l).map partPv)) σ := by
  refine aret_marks (Nat.le_of_ble_eq_true rfl) Tryz.func30 (by kernel_rfl) hb30 (by rw [Tryz.ntmps30]; exact er30) (by rw [Tryz.ntmps30]; exact Nat.le_of_ble_eq_true rfl) (fun F g w a hG hA => ?_)
  rw [Tryz.ntmps30] at hA ⊢
  rw [c30_eq]
  refine seq_pl e30_0 (Q := Done r30 σ (.sl false ((parts l).map partPv)) σ) (fun e a w _ h => .inl h) hG hA ?_
  simp only [i30_0]
  repeat' (first | simp (maxSteps := 1000000) (disch := omega) only [rb0, rb1, rb2, rb3, rb4, rb5, Od.ev, Ao.dst, Nat.reduceEqDiff, ↓reduceIte, reduceIte, reduceCtorEq, Nat.reduceAdd, Nat.reduceLeDiff, Nat.reduceSub, Int.reduceToNat, byt, Nat.reduceBEq] | with_reducible refine lw_of (fun _ => ?_) | with_reducible exact True.intro | with_reducible refine fin_same ?_ | with_reducible refine fin_loc ?_ ?_ ?_ | with_reducible exact Loc.refl _ | with_reducible refine Loc.push ?_ _ _ | with_reducible refine Loc.set ?_ _ _ (by first | omega | (simp only [push_n, set_n]; omega)) | with_reducible refine And.intro (by omega) ?_)
  intro a1 w1 hA1
  refine seq_pl e30_1 (Q := Done r30 σ (.sl false ((parts l).map partPv)) σ) (fun e a w _ h => .inl h) hG hA1 ?_
  simp only [i30_1]
  repeat' (first | simp (maxSteps := 1000000) (disch := omega) only [rb0, rb1, rb2, rb3, rb4, rb5, Od.ev, Ao.dst, Nat.reduceEqDiff, ↓reduceIte, reduceIte, reduceCtorEq, Nat.reduceAdd, Nat.reduceLeDiff, Nat.reduceSub, Int.reduceToNat, byt, Nat.reduceBEq] | with_reducible refine lw_of (fun _ => ?_) | with_reducible exact True.intro | with_reducible refine fin_same ?_ | with_reducible refine fin_loc ?_ ?_ ?_ | with_reducible exact Loc.refl _ | with_reducible refine Loc.push ?_ _ _ | with_reducible refine Loc.set ?_ _ _ (by first | omega | (simp only [push_n, set_n]; omega)) | with_reducible refine And.intro (by omega) ?_)
  intro a2 w2 hA2
  refine wp_seq (seq_pl e30_2 (Q := Done r30 σ (.sl false ((parts l).map partPv)) σ) (fun e a w hne h => ?_) hG hA2 ?_)
  · cases e with
    | normal => exact absurd rfl hne
    | _ => exact .inl h
  simp only [i30_2]
  repeat' (first | simp (maxSteps := 1000000) (disch := omega) only [rb0, rb1, rb2, rb3, rb4, rb5, Od.ev, Ao.dst, Nat.reduceEqDiff, ↓reduceIte, reduceIte, reduceCtorEq, Nat.reduceAdd, Nat.reduceLeDiff, Nat.reduceSub, Int.reduceToNat, byt, Nat.reduceBEq] | with_reducible refine lw_of (fun _ => ?_) | with_reducible exact True.intro | with_reducible refine fin_same ?_ | with_reducible refine fin_loc ?_ ?_ ?_ | with_reducible exact Loc.refl _ | with_reducible refine Loc.push ?_ _ _ | with_reducible refine Loc.set ?_ _ _ (by first | omega | (simp only [push_n, set_n]; omega)) | with_reducible refine And.intro (by omega) ?_ | with_reducible refine cw_of (k40 _ _) ?_)
  intro a3 w3 hA3
  refine rf_mid (god := .t 7) rfl ea30 eb30 ez30 na30 nb30 (gf := 68) (caps := [.ptr (σ.push 52 [.sl true []]).n 0]) (by simp (maxSteps := 1000000) (disch := omega) only [rb0, rb1, rb2, rb3, rb4, rb5, Od.ev, Ao.dst, Nat.reduceEqDiff, ↓reduceIte, reduceIte, reduceCtorEq, Nat.reduceAdd, Nat.reduceLeDiff, Nat.reduceSub, Int.reduceToNat, byt, Nat.reduceBEq]) (Nat.le_of_ble_eq_true rfl) Tryz.func68 (by kernel_rfl) hbi68 (by rw [Tryz.ntmps68]; exact eci68) (by rw [Tryz.ntmps68]; exact oki68) rfl (by rw [Tryz.ntmps68]; exact Nat.le_of_ble_eq_true rfl)
    (fun lp L hL => ?_) hG hA3 (fun e a w h => .inr h)
  refine it68 (b2 := σ.n + 1) (σ := ((σ.push 52 [Pv.sl true []]).push 33 [Pv.sl false (rowsPv l)]).at 0) l (by omega)
    (fun d σ' => Two σ σ' σ.n (σ.n + 1) (.sl true ((d.map (·.2)).map partPv)) (.sl false (rowsPv l))) (fun _ => False) (fun d σ' h => ⟨h.m2, h.k⟩) (fun _ h => h.elim) (fun d x r σ' h hd => .inl ?_)
    ⟨rfl, (show Loc σ (((σ.push 52 [Pv.sl true []]).push 33 [Pv.sl false (rowsPv l)]).at 0) from Loc.push (Loc.push (Loc.refl σ) _ _) _ _), by simp [St.at, St.push], by simp [St.at, St.push], by simp [St.at, St.push], by simp [St.at, St.push], Nat.le_refl _, by simp [St.push], by simp [St.push]⟩
    (fun σe h => ?_) lp L hL
  · refine ⟨_, body30 σ' _ σ.n _ _ ((d.map (·.2)).map partPv) (by simp (maxSteps := 1000000) (disch := omega) only [rb0, rb1, rb2, rb3, rb4, rb5, Od.ev, Ao.dst, Nat.reduceEqDiff, ↓reduceIte, reduceIte, reduceCtorEq, Nat.reduceAdd, Nat.reduceLeDiff, Nat.reduceSub, Int.reduceToNat, byt, Nat.reduceBEq]) h.k h.m1 h.r1 ?_ (parts_ok _), ?_⟩
    · have h1 := congrArg List.length hd
      have h2 := eachN_len (l.length + 1) 0 l
      simp only [List.length_append, List.length_cons, eachL, List.length_map] at h1 ⊢
      omega
    · have := h.set1 (.sl true ((d.map (·.2)).map partPv ++ [.sl false (rowsPv x.2)]))
      simpa [partPv] using this
  · rcases h with h | h
    · rw [h.k]
      simp only
      rw [q_blk_nx, q_then]
      have hm1 := h.m1
      simp only [iz30, r30]
      repeat' (first | simp (maxSteps := 1000000) (disch := omega) only [rb0, rb1, rb2, rb3, rb4, rb5, Od.ev, Ao.dst, Nat.reduceEqDiff, ↓reduceIte, reduceIte, reduceCtorEq, Nat.reduceAdd, Nat.reduceLeDiff, Nat.reduceSub, Int.reduceToNat, byt, Nat.reduceBEq, hm1, D_rt] | with_reducible refine lw_of (fun _ => ?_) | with_reducible exact True.intro | with_reducible refine fin_same ?_ | with_reducible refine fin_loc ?_ ?_ ?_ | with_reducible exact Loc.refl _ | with_reducible refine Loc.push ?_ _ _ | with_reducible refine Loc.set ?_ _ _ (by first | omega | (simp only [push_n, set_n]; omega)) | with_reducible refine And.intro (by omega) ?_)
      all_goals first
        | rfl
        | exact h.loc
        | exact clean_parts _ _
    · exact h.elim
end Gx
