import Derived.Test.YtgbkgdhnfjndgaaGreatDoorQ9
import Derived.KernelRfl
import Derived.Test.YtgbkgdhnfjndgaaGreatDoorSh
/- A part of the proof: a calculus of values over the model, and the functions that the statement reaches, each once, in that calculus. -/
set_option linter.all false
set_option linter.unusedSimpArgs false
set_option linter.unusedVariables false

/- Part L3. -/
/- load.Load. -/
set_option linter.unusedSimpArgs false
set_option linter.unusedVariables false
namespace Gx
open Go Go.Proofs Go.RowKit
variable {G : Nat → Option Obj}
/-- A tree: what it is, its text, its anchor, its kids. -/
def treeOf (k : Int) (t a : List UInt8) (kids : List Pv) : Pv := .agg [.int .i64 k, .str t, .str a, .sl false kids]
theorem body15 (σ : St) (ρ : Env) (b : Nat) (n : Int) (rows : List Pv) (out : List Pv) (h6 : (ρ 6).shr = .ptr b 0) (hk : σ.k = 0) (hm : σ.m b = [.sl true out]) (hro : σ.ro b = false) (hlen : out.length < 64) (hout : ∀ y ∈ out, y.cells.length = 1 ∧ elOk 33 y) :
    YB Tryz.prog G ia15 ib15 [25, 26] ρ [.int .i64 n, .sl false rows] σ (.bool true) (σ.set b [.sl true (out ++ [.sl false rows])]) := by
  refine ⟨hk, rfl, ?_⟩
  simp only [ia15, ib15, parEnv]
  have ho := eq_true hout
  have h64 : ((out.length : Int) = 64) = False := by simp; omega
  repeat' (first | simp (maxSteps := 1000000) (disch := omega) only [rb0, rb1, rb2, rb3, rb4, rb5, Od.ev, Ao.dst, Nat.reduceEqDiff, ↓reduceIte, reduceIte, reduceCtorEq, Nat.reduceAdd, Nat.reduceLeDiff, Nat.reduceSub, Int.reduceToNat, byt, Nat.reduceBEq, h6, hm, hro, ho, QB_nx, List.mem_singleton, forall_eq, List.not_mem_nil, false_implies, implies_true, byt33, List.set_cons_zero, h64] | with_reducible refine lw_of (fun _ => ?_) | with_reducible exact True.intro | with_reducible refine fin_same ?_ | with_reducible refine fin_loc ?_ ?_ ?_ | with_reducible exact Loc.refl _ | with_reducible refine Loc.push ?_ _ _ | with_reducible refine Loc.set ?_ _ _ (by first | omega | (simp only [push_n, set_n]; omega)) | with_reducible refine And.intro (by omega) ?_)
  rw [set_set, ← at_set _ _ _ hk]
/-- The boxes of Load. -/
structure Six (σ0 σ : St) (d rows : Pv) : Prop where
  k : σ.k = 0
  loc : Loc σ0 σ
  n : σ0.n + 6 ≤ σ.n
  m0 : (σ.m σ0.n).length = 1
  m1 : (σ.m (σ0.n + 1)).length = 2
  m2 : σ.m (σ0.n + 2) = [rows]
  m4 : σ.m (σ0.n + 4) = [d]
  m5 : σ.m (σ0.n + 5) = [rows]
  r0 : σ.ro σ0.n = false
  r1 : σ.ro (σ0.n + 1) = false
  r4 : σ.ro (σ0.n + 4) = false
theorem Six.set4 {σ0 σ : St} {d rows : Pv} (h : Six σ0 σ d rows) (d' : Pv) : Six σ0 (σ.set (σ0.n + 4) [d']) d' rows :=
  ⟨h.k, h.loc.set _ _ (by omega), h.n, by simp [St.set, h.m0], by simp [St.set, h.m1], by simp [St.set, h.m2], by simp [St.set], by simp [St.set, h.m5], h.r0, h.r1, h.r4⟩
theorem Six.of_loc {σ0 σ σ' : St} {d rows : Pv} (h : Six σ0 σ d rows) (hl : Loc σ σ') (hk : σ'.k = 0) : Six σ0 σ' d rows := by
  have hn := h.n
  have e : ∀ i, i < 6 → σ'.m (σ0.n + i) = σ.m (σ0.n + i) ∧ σ'.ro (σ0.n + i) = σ.ro (σ0.n + i) := fun i hi => ⟨(hl.2 _ (by omega)).1, (hl.2 _ (by omega)).2.1⟩
  have e0 := e 0 (by omega)
  simp only [Nat.add_zero] at e0
  exact ⟨hk, h.loc.trans hl, by have := hl.1; omega, by rw [e0.1]; exact h.m0, by rw [(e 1 (by omega)).1]; exact h.m1, by rw [(e 2 (by omega)).1]; exact h.m2, by rw [(e 4 (by omega)).1]; exact h.m4, by rw [(e 5 (by omega)).1]; exact h.m5,
    by rw [e0.2]; exact h.r0, by rw [(e 1 (by omega)).2]; exact h.r1, by rw [(e 4 (by omega)).2]; exact h.r4⟩
theorem byt30 : ((30 : Nat) == byt) = false := rfl
theorem k15a {s : List UInt8} {l : List Row} (hread : ∀ σ, ARet Tryz.prog G 38 [.str s] σ (.tup [.sl false (rowsPv l), flt 0 0]) σ) (hs : l.length < 2 ^ 32 - 1) (K : List Row → Int) (T A : List Row → List UInt8) (C : List Row → List Pv)
    (hp : ∀ p ∈ parts l, ∀ σ, ARet Tryz.prog G 20 [partPv p] σ (.tup [treeOf (K p) (T p) (A p) (C p), flt 0 0]) σ) (hC : ∀ n p, cleanL n (C p) = true) (h64 : (parts l).length ≤ 64) (σ : St) :
    ARet Tryz.prog G 15 [.str s] σ (.tup [.sl false ((parts l).map fun p => treeOf (K p) (T p) (A p) (C p)), flt 0 0]) σ := by
  obtain ⟨r, hr⟩ : ∃ r : Pv, r = .tup [.sl false ((parts l).map fun p => treeOf (K p) (T p) (A p) (C p)), flt 0 0] := ⟨_, rfl⟩
  rw [← hr]
  refine aret_marks (Nat.le_of_ble_eq_true rfl) Tryz.func15 (by kernel_rfl) hb15 (by rw [Tryz.ntmps15]; exact er15) (by rw [Tryz.ntmps15]; exact Nat.le_of_ble_eq_true rfl) (fun F g w a hG hA => ?_)
  rw [Tryz.ntmps15] at hA ⊢
  rw [c15_eq]
  refine seq_pl e15_0 (Q := Done r15 σ r σ) (fun e a w _ h => .inl h) hG hA ?_
  simp only [i15_0]
  repeat' (first | simp (maxSteps := 1000000) (disch := omega) only [rb0, rb1, rb2, rb3, rb4, rb5, Od.ev, Ao.dst, Nat.reduceEqDiff, ↓reduceIte, reduceIte, reduceCtorEq, Nat.reduceAdd, Nat.reduceLeDiff, Nat.reduceSub, Int.reduceToNat, byt, Nat.reduceBEq] | with_reducible refine lw_of (fun _ => ?_) | with_reducible exact True.intro | with_reducible refine fin_same ?_ | with_reducible refine fin_loc ?_ ?_ ?_ | with_reducible exact Loc.refl _ | with_reducible refine Loc.push ?_ _ _ | with_reducible refine Loc.set ?_ _ _ (by first | omega | (simp only [push_n, set_n]; omega)) | with_reducible refine And.intro (by omega) ?_)
  intro a1 w1 hA1
  refine seq_pl e15_1 (Q := Done r15 σ r σ) (fun e a w _ h => .inl h) hG hA1 ?_
  simp only [i15_1]
  repeat' (first | simp (maxSteps := 1000000) (disch := omega) only [rb0, rb1, rb2, rb3, rb4, rb5, Od.ev, Ao.dst, Nat.reduceEqDiff, ↓reduceIte, reduceIte, reduceCtorEq, Nat.reduceAdd, Nat.reduceLeDiff, Nat.reduceSub, Int.reduceToNat, byt, Nat.reduceBEq, flt] | with_reducible refine lw_of (fun _ => ?_) | with_reducible exact True.intro | with_reducible refine fin_same ?_ | with_reducible refine fin_loc ?_ ?_ ?_ | with_reducible exact Loc.refl _ | with_reducible refine Loc.push ?_ _ _ | with_reducible refine Loc.set ?_ _ _ (by first | omega | (simp only [push_n, set_n]; omega)) | with_reducible refine And.intro (by omega) ?_ | with_reducible refine cw_of (hread _) ?_)
  intro a2 w2 hA2
  refine seq_pl e15_2 (Q := Done r15 σ r σ) (fun e a w _ h => .inl h) hG hA2 ?_
  simp only [i15_2]
  repeat' (first | simp (maxSteps := 1000000) (disch := omega) only [rb0, rb1, rb2, rb3, rb4, rb5, Od.ev, Ao.dst, Nat.reduceEqDiff, ↓reduceIte, reduceIte, reduceCtorEq, Nat.reduceAdd, Nat.reduceLeDiff, Nat.reduceSub, Int.reduceToNat, byt, Nat.reduceBEq] | with_reducible refine lw_of (fun _ => ?_) | with_reducible exact True.intro | with_reducible refine fin_same ?_ | with_reducible refine fin_loc ?_ ?_ ?_ | with_reducible exact Loc.refl _ | with_reducible refine Loc.push ?_ _ _ | with_reducible refine Loc.set ?_ _ _ (by first | omega | (simp only [push_n, set_n]; omega)) | with_reducible refine And.intro (by omega) ?_)
  intro a3 w3 hA3
  refine seq_pl e15_3 (Q := Done r15 σ r σ) (fun e a w _ h => .inl h) hG hA3 ?_
  simp only [i15_3]
  repeat' (first | simp (maxSteps := 1000000) (disch := omega) only [rb0, rb1, rb2, rb3, rb4, rb5, Od.ev, Ao.dst, Nat.reduceEqDiff, ↓reduceIte, reduceIte, reduceCtorEq, Nat.reduceAdd, Nat.reduceLeDiff, Nat.reduceSub, Int.reduceToNat, byt, Nat.reduceBEq] | with_reducible refine lw_of (fun _ => ?_) | with_reducible exact True.intro | with_reducible refine fin_same ?_ | with_reducible refine fin_loc ?_ ?_ ?_ | with_reducible exact Loc.refl _ | with_reducible refine Loc.push ?_ _ _ | with_reducible refine Loc.set ?_ _ _ (by first | omega | (simp only [push_n, set_n]; omega)) | with_reducible refine And.intro (by omega) ?_)
  intro a4 w4 hA4
  refine wp_seq (seq_pl e15_4 (Q := Done r15 σ r σ) (fun e a w hne h => ?_) hG hA4 ?_)
  · cases e with
    | normal => exact absurd rfl hne
    | _ => exact .inl h
  simp only [i15_4]
  repeat' (first | simp (maxSteps := 1000000) (disch := omega) only [rb0, rb1, rb2, rb3, rb4, rb5, Od.ev, Ao.dst, Nat.reduceEqDiff, ↓reduceIte, reduceIte, reduceCtorEq, Nat.reduceAdd, Nat.reduceLeDiff, Nat.reduceSub, Int.reduceToNat, byt, Nat.reduceBEq] | with_reducible refine lw_of (fun _ => ?_) | with_reducible exact True.intro | with_reducible refine fin_same ?_ | with_reducible refine fin_loc ?_ ?_ ?_ | with_reducible exact Loc.refl _ | with_reducible refine Loc.push ?_ _ _ | with_reducible refine Loc.set ?_ _ _ (by first | omega | (simp only [push_n, set_n]; omega)) | with_reducible refine And.intro (by omega) ?_ | with_reducible refine cw_of (k40 _ _) ?_)
  intro a5 w5 hA5
  obtain ⟨ρ5, σ5, hA5', g2, g3, g6, g24, hS⟩ : ∃ ρ5 σ5, At 63 F g w [] ρ5 σ5 a5 w5 ∧ ρ5 2 = .ptr σ.n 0 ∧ ρ5 3 = .ptr (σ.n + 1) 0 ∧ ρ5 6 = .ptr (σ.n + 4) 0 ∧ ρ5 24 = .clo 68 [] [.ptr (σ.n + 5) 0] ∧ Six σ (σ5.at 0) (.sl true []) (.sl false (rowsPv l)) := by
    refine ⟨_, _, hA5, by simp (maxSteps := 1000000) (disch := omega) only [rb0, rb1, rb2, rb3, rb4, rb5, Od.ev, Ao.dst, Nat.reduceEqDiff, ↓reduceIte, reduceIte, reduceCtorEq, Nat.reduceAdd, Nat.reduceLeDiff, Nat.reduceSub, Int.reduceToNat, byt, Nat.reduceBEq], by simp (maxSteps := 1000000) (disch := omega) only [rb0, rb1, rb2, rb3, rb4, rb5, Od.ev, Ao.dst, Nat.reduceEqDiff, ↓reduceIte, reduceIte, reduceCtorEq, Nat.reduceAdd, Nat.reduceLeDiff, Nat.reduceSub, Int.reduceToNat, byt, Nat.reduceBEq], by simp (maxSteps := 1000000) (disch := omega) only [rb0, rb1, rb2, rb3, rb4, rb5, Od.ev, Ao.dst, Nat.reduceEqDiff, ↓reduceIte, reduceIte, reduceCtorEq, Nat.reduceAdd, Nat.reduceLeDiff, Nat.reduceSub, Int.reduceToNat, byt, Nat.reduceBEq, Nat.add_assoc, Nat.reduceAdd], by simp (maxSteps := 1000000) (disch := omega) only [rb0, rb1, rb2, rb3, rb4, rb5, Od.ev, Ao.dst, Nat.reduceEqDiff, ↓reduceIte, reduceIte, reduceCtorEq, Nat.reduceAdd, Nat.reduceLeDiff, Nat.reduceSub, Int.reduceToNat, byt, Nat.reduceBEq, Nat.add_assoc, Nat.reduceAdd], ?_⟩
    refine ⟨rfl, ?_, by simp [St.at, St.push, St.set, Nat.add_assoc], by simp [St.at, St.push, St.set, Nat.add_assoc], by simp [St.at, St.push, St.set, Nat.add_assoc], by simp [St.at, St.push, St.set, Nat.add_assoc], by simp [St.at, St.push, St.set, Nat.add_assoc], by simp [St.at, St.push, St.set, Nat.add_assoc], by simp [St.at, St.push, St.set, Nat.add_assoc], by simp [St.at, St.push, St.set, Nat.add_assoc], by simp [St.at, St.push, St.set, Nat.add_assoc]⟩
    refine ⟨by simp [St.at, St.push, St.set, Nat.add_assoc], fun b hb => ?_⟩
    have e0 : b ≠ σ.n := by omega
    have e1 : b ≠ σ.n + 1 := by omega
    have e2 : b ≠ σ.n + 1 + 1 := by omega
    have e3 : b ≠ σ.n + 1 + 1 + 1 := by omega
    have e4 : b ≠ σ.n + 1 + 1 + 1 + 1 := by omega
    have e5 : b ≠ σ.n + 1 + 1 + 1 + 1 + 1 := by omega
    simp [St.at, St.push, St.set, e0, e1, e2, e3, e4, e5]
  clear hA hA1 hA2 hA3 hA4 hA5
  refine rf_mid (god := .t 24) rfl ea15 eb15 ez15 na15 nb15 (gf := 68) (caps := [.ptr (σ.n + 5) 0]) g24 (Nat.le_of_ble_eq_true rfl) Tryz.func68 (by kernel_rfl) hbi68 (by rw [Tryz.ntmps68]; exact eci68) (by rw [Tryz.ntmps68]; exact oki68) rfl (by rw [Tryz.ntmps68]; exact Nat.le_of_ble_eq_true rfl)
    (fun lp L hL => ?_) hG hA5' (fun e a w h => .inr h)
  refine it68 (b2 := σ.n + 5) (σ := σ5.at 0) l (by omega)
    (fun d σ' => Six σ σ' (.sl true ((d.map (·.2)).map partPv)) (.sl false (rowsPv l))) (fun _ => False) (fun d σ' h => ⟨h.m5, h.k⟩) (fun _ h => h.elim) (fun d x q σ' h hd => .inl ?_) hS (fun σe h => ?_) lp L hL
  · refine ⟨_, body15 σ' _ (σ.n + 4) _ _ ((d.map (·.2)).map partPv) (by rw [g6]; rfl) h.k h.m4 h.r4 ?_ (parts_ok _), ?_⟩
    · have h1 := congrArg List.length hd
      simp only [List.length_append, List.length_cons, List.length_map, parts] at h1 h64 ⊢
      omega
    · have := h.set4 (.sl true ((d.map (·.2)).map partPv ++ [.sl false (rowsPv x.2)]))
      simpa [partPv] using this
  · replace h : Six σ σe (.sl true (((eachL l).map (·.2)).map partPv)) (.sl false (rowsPv l)) := h.elim (fun h => h) (fun h => h.elim)
    rw [h.k]
    simp only
    rw [q_blk_nx, q_then]
    have hm4 := h.m4
    simp only [iz15, r15]
    repeat' (first | simp (maxSteps := 1000000) (disch := omega) only [rb0, rb1, rb2, rb3, rb4, rb5, Od.ev, Ao.dst, Nat.reduceEqDiff, ↓reduceIte, reduceIte, reduceCtorEq, Nat.reduceAdd, Nat.reduceLeDiff, Nat.reduceSub, Int.reduceToNat, byt, Nat.reduceBEq, g2, g3, g6, hm4, D_rt] | with_reducible refine lw_of (fun _ => ?_) | with_reducible exact True.intro | with_reducible refine fin_same ?_ | with_reducible refine fin_loc ?_ ?_ ?_ | with_reducible exact Loc.refl _ | with_reducible refine Loc.push ?_ _ _ | with_reducible refine Loc.set ?_ _ _ (by first | omega | (simp only [push_n, set_n]; omega)) | with_reducible refine And.intro (by omega) ?_)
    refine loop_rule (fun n ρ σ' => Six σ σ' (.sl true ((parts l).map partPv)) (.sl false (rowsPv l)) ∧ ∃ k : Nat, n = (parts l).length - k ∧ k ≤ (parts l).length ∧ ρ 2 = .ptr σ.n 0 ∧ ρ 3 = .ptr (σ.n + 1) 0 ∧ ρ 9 = .sl true (((parts l).take k).map fun p => treeOf (K p) (T p) (A p) (C p)) ∧ ρ 41 = .sl false ((parts l).map partPv) ∧ ρ 42 = .int .i64 (parts l).length ∧ ρ 43 = .int .i64 k) (fun n ρ σ' hI => ?_)
      ⟨h, 0, rfl, by omega, by simp (maxSteps := 1000000) (disch := omega) only [rb0, rb1, rb2, rb3, rb4, rb5, Od.ev, Ao.dst, Nat.reduceEqDiff, ↓reduceIte, reduceIte, reduceCtorEq, Nat.reduceAdd, Nat.reduceLeDiff, Nat.reduceSub, Int.reduceToNat, byt, Nat.reduceBEq, g2], by simp (maxSteps := 1000000) (disch := omega) only [rb0, rb1, rb2, rb3, rb4, rb5, Od.ev, Ao.dst, Nat.reduceEqDiff, ↓reduceIte, reduceIte, reduceCtorEq, Nat.reduceAdd, Nat.reduceLeDiff, Nat.reduceSub, Int.reduceToNat, byt, Nat.reduceBEq, g3], by simp (maxSteps := 1000000) (disch := omega) only [rb0, rb1, rb2, rb3, rb4, rb5, Od.ev, Ao.dst, Nat.reduceEqDiff, ↓reduceIte, reduceIte, reduceCtorEq, Nat.reduceAdd, Nat.reduceLeDiff, Nat.reduceSub, Int.reduceToNat, byt, Nat.reduceBEq, List.take_zero], by simp (maxSteps := 1000000) (disch := omega) only [rb0, rb1, rb2, rb3, rb4, rb5, Od.ev, Ao.dst, Nat.reduceEqDiff, ↓reduceIte, reduceIte, reduceCtorEq, Nat.reduceAdd, Nat.reduceLeDiff, Nat.reduceSub, Int.reduceToNat, byt, Nat.reduceBEq]; rfl, by simp (maxSteps := 1000000) (disch := omega) only [rb0, rb1, rb2, rb3, rb4, rb5, Od.ev, Ao.dst, Nat.reduceEqDiff, ↓reduceIte, reduceIte, reduceCtorEq, Nat.reduceAdd, Nat.reduceLeDiff, Nat.reduceSub, Int.reduceToNat, byt, Nat.reduceBEq]; simp [parts], by simp (maxSteps := 1000000) (disch := omega) only [rb0, rb1, rb2, rb3, rb4, rb5, Od.ev, Ao.dst, Nat.reduceEqDiff, ↓reduceIte, reduceIte, reduceCtorEq, Nat.reduceAdd, Nat.reduceLeDiff, Nat.reduceSub, Int.reduceToNat, byt, Nat.reduceBEq]⟩
    obtain ⟨hS', k, rfl, hle, e2, e3, e9, e41, e42, e43⟩ := hI
    repeat' (first | simp (maxSteps := 1000000) (disch := omega) only [rb0, rb1, rb2, rb3, rb4, rb5, Od.ev, Ao.dst, Nat.reduceEqDiff, ↓reduceIte, reduceIte, reduceCtorEq, Nat.reduceAdd, Nat.reduceLeDiff, Nat.reduceSub, Int.reduceToNat, byt, Nat.reduceBEq, e42, e43] | with_reducible refine lw_of (fun _ => ?_) | with_reducible exact True.intro | with_reducible refine fin_same ?_ | with_reducible refine fin_loc ?_ ?_ ?_ | with_reducible exact Loc.refl _ | with_reducible refine Loc.push ?_ _ _ | with_reducible refine Loc.set ?_ _ _ (by first | omega | (simp only [push_n, set_n]; omega)) | with_reducible refine And.intro (by omega) ?_)
    refine bw_dec (fun hlt => ?_) (fun hlt => ?_)
    · have hlt : k < (parts l).length := by omega
      have hk : ((parts l).map partPv)[k]? = some (partPv (parts l)[k]) := by simp [hlt]
      have hw : IntKind.i64.wrap ((k : Int) + 1) = (k : Int) + 1 := wrap64 (by omega)
      have h20 := hp (parts l)[k] (List.getElem_mem hlt) σ'
      simp only [partPv] at h20
      repeat' (first | simp (maxSteps := 1000000) (disch := omega) only [rb0, rb1, rb2, rb3, rb4, rb5, Od.ev, Ao.dst, Nat.reduceEqDiff, ↓reduceIte, reduceIte, reduceCtorEq, Nat.reduceAdd, Nat.reduceLeDiff, Nat.reduceSub, Int.reduceToNat, byt, Nat.reduceBEq, e41, e43, hk, partPv] | with_reducible refine lw_of (fun _ => ?_) | with_reducible exact True.intro | with_reducible refine fin_same ?_ | with_reducible refine fin_loc ?_ ?_ ?_ | with_reducible exact Loc.refl _ | with_reducible refine Loc.push ?_ _ _ | with_reducible refine Loc.set ?_ _ _ (by first | omega | (simp only [push_n, set_n]; omega)) | with_reducible refine And.intro (by omega) ?_)
      refine cw_of h20 ?_
      simp (maxSteps := 1000000) (disch := omega) only [rb0, rb1, rb2, rb3, rb4, rb5, Od.ev, Ao.dst, Nat.reduceEqDiff, ↓reduceIte, reduceIte, reduceCtorEq, Nat.reduceAdd, Nat.reduceLeDiff, Nat.reduceSub, Int.reduceToNat, byt, Nat.reduceBEq, e2, e3, e9, e41, e42, e43, treeOf, flt, hw, byt30, List.mem_singleton, forall_eq, List.not_mem_nil, false_implies, implies_true, List.length_map, List.length_take]
      refine ⟨by omega, fun y hy => ?_, _, by omega, hS'.of_loc ((((Loc.refl σ').push _ _).push _ _).set _ _ (Nat.le_refl _) |>.set _ _ (by omega)) hS'.k, k + 1, rfl, by omega, ?_, by omega⟩
      · obtain ⟨p, _, rfl⟩ := List.mem_map.1 hy
        exact ⟨rfl, by simp [elOk, Pv.isU8, byt30]⟩
      · rw [← List.take_append_getElem hlt, List.map_append]
        rfl
    · have z0 := hS'.m0
      have z1 := hS'.m1
      have z2 := hS'.r0
      have z3 := hS'.r1
      repeat' (first | simp (maxSteps := 1000000) (disch := omega) only [rb0, rb1, rb2, rb3, rb4, rb5, Od.ev, Ao.dst, Nat.reduceEqDiff, ↓reduceIte, reduceIte, reduceCtorEq, Nat.reduceAdd, Nat.reduceLeDiff, Nat.reduceSub, Int.reduceToNat, byt, Nat.reduceBEq, e2, e3, e9, z0, z1, z2, z3, D_rt] | with_reducible refine lw_of (fun _ => ?_) | with_reducible exact True.intro | with_reducible refine fin_same ?_ | with_reducible refine fin_loc ?_ ?_ ?_ | with_reducible exact Loc.refl _ | with_reducible refine Loc.push ?_ _ _ | with_reducible refine Loc.set ?_ _ _ (by first | omega | (simp only [push_n, set_n]; omega)) | with_reducible refine And.intro (by omega) ?_)
      all_goals first
        | exact hS'.loc
        | (rw [hr]; simp only [clean, cleanL, Bool.and_true, flt, Bool.and_eq_true, and_true]; rw [cleanL_iff]; intro x hx; obtain ⟨p, _, rfl⟩ := List.mem_map.1 hx; simp [treeOf, clean, cleanL, hC])
        | (rw [hr, List.take_of_length_le (by omega)]; simp (maxSteps := 1000000) (disch := omega) only [rb0, rb1, rb2, rb3, rb4, rb5, Od.ev, Ao.dst, Nat.reduceEqDiff, ↓reduceIte, reduceIte, reduceCtorEq, Nat.reduceAdd, Nat.reduceLeDiff, Nat.reduceSub, Int.reduceToNat, byt, Nat.reduceBEq, flt])
end Gx

/- Part K5. -/
/- Go's strings.Trim at an ASCII cutset. -/
set_option linter.unusedSimpArgs false
set_option linter.unusedVariables false
namespace Gx
open Go Go.Proofs Go.RowKit
variable {G : Nat → Option Obj}

def ascii (cs : List UInt8) : Prop := ∀ b ∈ cs, b.toNat < 128
theorem ba_eq {s : ByteArray} {l : List UInt8} (h : s.data.toList = l) : s = ⟨l.toArray⟩ := by
  cases s with | mk d => simp only at h; subst h; simp
theorem trimRightS_len (l cs : List UInt8) : (Lib.trimRightS l cs).length ≤ l.length := by
  unfold Lib.trimRightS
  have := (List.dropWhile_suffix (cs.contains ·) (l := l.reverse)).length_le
  simpa using this
theorem trimLeftS_len (l cs : List UInt8) : (Lib.trimLeftS l cs).length ≤ l.length := (List.dropWhile_suffix _).length_le
theorem k150 (σ : St) (s cs : List UInt8) (hc : cs.length < 100) (ha : ascii cs) : ARet Tryz.prog G 150 [.str s, .str cs] σ (.str (Lib.trimS s cs)) σ := by
  refine aret_str2 (ent Tryz.func150 (by kernel_rfl)) fun g w s' t' hG hs hl ht hm => ?_
  obtain rfl := ba_eq hs
  obtain rfl := ba_eq ht
  have hz : ∀ l : List UInt8, (⟨l.toArray⟩ : ByteArray).size = l.length := fun l => by simp [ByteArray.size]
  refine (Any.strings_Trim_laid Tryz.slays160 (by kernel_rfl) ⟨s.toArray⟩ ⟨cs.toArray⟩ w (by rw [hz]; omega) (by rw [hz]; omega) (fun j b hj => ha b (List.mem_of_getElem? (by simpa using hj)))).mono ?_
  rintro e w' ⟨rfl, hB⟩
  have h1 := trimRightS_len s cs
  have h2 := trimLeftS_len (Lib.trimRightS s cs) cs
  refine ⟨_, rfl, hB, ?_⟩
  have : (Lib.trimS s cs).length ≤ s.length := by
    unfold Lib.trimS
    first
      | exact Nat.le_trans h2 h1
      | exact Nat.le_trans (trimRightS_len _ _) (trimLeftS_len _ _)
  simpa using R.mkstr (g := g) (w := w') (l := Lib.trimS s cs) (by omega)
theorem k65s (σ : St) (s cs : List UInt8) (hc : cs.length < 100) (ha : ascii cs) : ARet Tryz.prog G 65 [.str s, .str cs] σ (.str (trimR (cs.contains ·) s)) σ := by
  refine aret_str2 (ent Tryz.func65 (by kernel_rfl)) fun g w s' t' hG hs hl ht hm => ?_
  obtain rfl := ba_eq hs
  obtain rfl := ba_eq ht
  have hz : ∀ l : List UInt8, (⟨l.toArray⟩ : ByteArray).size = l.length := fun l => by simp [ByteArray.size]
  refine (Any.strings_TrimRight_laid Tryz.slays162 (by kernel_rfl) ⟨s.toArray⟩ ⟨cs.toArray⟩ w (by rw [hz]; omega) (by rw [hz]; omega) (fun j b hj => ha b (List.mem_of_getElem? (by simpa using hj)))).mono ?_
  rintro e w' ⟨rfl, hB⟩
  have h1 := trimRightS_len s cs
  refine ⟨_, rfl, hB, ?_⟩
  have h := R.mkstr (g := g) (w := w') (l := Lib.trimRightS s cs) (by omega)
  simpa [trimR, Lib.trimRightS] using h
end Gx

/- Part Pm. -/
/- Rules of the evaluator: library functions behind their contracts. -/
set_option linter.unusedSimpArgs false
set_option linter.unusedVariables false
namespace Gx
open Go Go.Proofs Go.RowKit
variable {G : Nat → Option Obj}
def isB8 (n : Int) : Bool := decide (0 ≤ n) && decide (n < 256)
theorem b8 {n : Int} (h : isB8 n = true) : ((UInt8.ofNat n.toNat).toNat : Int) = n := by
  simp only [isB8, Bool.and_eq_true, decide_eq_true_eq] at h
  have : (UInt8.ofNat n.toNat).toNat = n.toNat % 256 := by simp
  rw [this]; omega
def isAsc (cs : List UInt8) : Bool := decide (cs.length < 100) && cs.all fun c => decide (c.toNat < 128)
theorem asc {cs : List UInt8} (h : isAsc cs = true) : cs.length < 100 ∧ ascii cs := by
  simp only [isAsc, Bool.and_eq_true, decide_eq_true_eq, List.all_eq_true] at h
  exact h
abbrev PrF := List Pv → Bx → Option (Pv × Bx)
def p62 : PrF := fun a s => match a with
  | [.str t] => if t.length < 4294967296 then some (.sl false ((lines t).map .str), s) else none
  | _ => none
theorem q62 (a : List Pv) (s : Bx) (r : Pv) (s' : Bx) (h : p62 a s = some (r, s')) : ARet Tryz.prog G 62 a (toSt s) r (toSt s') := by
  unfold p62 at h
  split at h
  · split at h
    · rename_i hl; cases h; exact k62 _ _ (by omega)
    · cases h
  · cases h
def p64 : PrF := fun a s => match a with
  | [.str t, .int .u8 n] => if isB8 n = true then some (.int .i64 (Lib.indexByte t (UInt8.ofNat n.toNat)), s) else none
  | _ => none
theorem q64 (a : List Pv) (s : Bx) (r : Pv) (s' : Bx) (h : p64 a s = some (r, s')) : ARet Tryz.prog G 64 a (toSt s) r (toSt s') := by
  unfold p64 at h
  split at h
  · rename_i t n
    split at h
    · rename_i hl
      cases h
      have := k64 (G := G) (toSt s) t (UInt8.ofNat n.toNat)
      rw [b8 hl] at this
      exact this
    · cases h
  · cases h
def p233 : PrF := fun a s => match a with
  | [.str t, .str [c]] => some (.int .i64 (Lib.indexByte t c), s)
  | _ => none
theorem q233 (a : List Pv) (s : Bx) (r : Pv) (s' : Bx) (h : p233 a s = some (r, s')) : ARet Tryz.prog G 233 a (toSt s) r (toSt s') := by
  unfold p233 at h
  split at h
  · cases h; exact k233 _ _ _
  · cases h
theorem dec_asc (c : UInt8) (cs : List UInt8) (h : c.toNat < 128) : dec (c :: cs) = (c.toNat, 1) := by
  have hs : (⟨(c :: cs).toArray⟩ : ByteArray).size = cs.length + 1 := by simp [ByteArray.size]
  have h0 : (⟨(c :: cs).toArray⟩ : ByteArray).get! 0 = c := by simp [ByteArray.get!]
  unfold dec Lib.decodeGo
  rw [if_neg (by rw [hs]; omega), Lib.decode_at, h0]
  simp only [Lib.decodeN, if_pos h]
def p145 : PrF := fun a s => match a with
  | [.str (c :: cs)] => if c.toNat < 128 then some (.tup [.int .i32 c.toNat, .int .i64 1], s) else none
  | _ => none
theorem q145 [Laid G] (a : List Pv) (s : Bx) (r : Pv) (s' : Bx) (h : p145 a s = some (r, s')) : ARet Tryz.prog G 145 a (toSt s) r (toSt s') := by
  unfold p145 at h
  split at h
  · rename_i c cs
    split at h
    · rename_i hl
      cases h
      have := k145 (G := G) (toSt s) (c :: cs)
      rw [dec_asc c cs hl] at this
      exact this
    · cases h
  · cases h
def p150 : PrF := fun a s => match a with
  | [.str t, .str cs] => if isAsc cs = true then some (.str (Lib.trimS t cs), s) else none
  | _ => none
theorem q150 (a : List Pv) (s : Bx) (r : Pv) (s' : Bx) (h : p150 a s = some (r, s')) : ARet Tryz.prog G 150 a (toSt s) r (toSt s') := by
  unfold p150 at h
  split at h
  · split at h
    · rename_i hl; cases h; exact k150 _ _ _ (asc hl).1 (asc hl).2
    · cases h
  · cases h
def p65 : PrF := fun a s => match a with
  | [.str t, .str cs] => if isAsc cs = true then some (.str (trimR (cs.contains ·) t), s) else none
  | _ => none
theorem q65 (a : List Pv) (s : Bx) (r : Pv) (s' : Bx) (h : p65 a s = some (r, s')) : ARet Tryz.prog G 65 a (toSt s) r (toSt s') := by
  unfold p65 at h
  split at h
  · split at h
    · rename_i hl; cases h; exact k65s _ _ _ (asc hl).1 (asc hl).2
    · cases h
  · cases h
def p149 : PrF := fun a s => match a with
  | [.str t] => if t.length ≤ 281474976710656 then some (numR t, s) else none
  | _ => none
theorem q149 [Laid G] [Errs G] (a : List Pv) (s : Bx) (r : Pv) (s' : Bx) (h : p149 a s = some (r, s')) : ARet Tryz.prog G 149 a (toSt s) r (toSt s') := by
  unfold p149 at h
  split at h
  · split at h
    · rename_i hl; cases h; exact k149 _ _ hl
    · cases h
  · cases h
end Gx

/- Part Tb. -/
set_option maxRecDepth 10000
namespace Gx
open Go Go.Proofs Gx
variable {G : Nat → Option Obj}
def tbA : BT := (.node 132 (.code ir132) (.node 87 (.code ir87) (.node 63 (.code ir63) (.node 43 (.code ir43) (.node 24 (.code ir24) (.node 20 (.code ir20) (.node 17 (.code ir17) .nil .nil) (.node 22 (.code ir22) .nil .nil)) (.node 38 (.code ir38) (.node 29 (.code ir29) .nil .nil) .nil)) (.node 49 (.code ir49) (.node 47 (.code ir47) (.node 46 (.code ir46) .nil .nil) .nil) (.node 62 (.prim p62) (.node 57 (.code ir57) .nil .nil) .nil))) (.node 76 (.code ir76) (.node 67 (.code ir67) (.node 65 (.prim p65) (.node 64 (.prim p64) .nil .nil) (.node 66 (.code ir66) .nil .nil)) (.node 75 (.code ir75) (.node 69 (.code ir69) .nil .nil) .nil)) (.node 79 (.code ir79) (.node 78 (.code ir78) (.node 77 (.code ir77) .nil .nil) .nil) (.node 86 (.code ir86) (.node 80 (.code ir80) .nil .nil) .nil)))) (.node 118 (.code ir118) (.node 103 (.code ir103) (.node 92 (.code ir92) (.node 90 (.code ir90) (.node 89 (.code ir89) .nil .nil) (.node 91 (.code ir91) .nil .nil)) (.node 94 (.code ir94) (.node 93 (.code ir93) .nil .nil) .nil)) (.node 111 (.code ir111) (.node 105 (.code ir105) (.node 104 (.code ir104) .nil .nil) .nil) (.node 113 (.code ir113) (.node 112 (.code ir112) .nil .nil) .nil))) (.node 126 (.code ir126) (.node 121 (.code ir121) (.node 120 (.code ir120) (.node 119 (.code ir119) .nil .nil) .nil) (.node 125 (.code ir125) (.node 122 (.code ir122) .nil .nil) .nil)) (.node 129 (.code ir129) (.node 128 (.code ir128) (.node 127 (.code ir127) .nil .nil) .nil) (.node 131 (.code ir131) (.node 130 (.code ir130) .nil .nil) .nil))))) (.node 186 (.code ir186) (.node 169 (.code ir169) (.node 149 (.prim p149) (.node 146 (.code ir146) (.node 134 (.code ir134) (.node 133 (.code ir133) .nil .nil) (.node 145 (.prim p145) .nil .nil)) (.node 148 (.code ir148) (.node 147 (.code ir147) .nil .nil) .nil)) (.node 161 (.code ir161) (.node 151 (.code ir151) (.node 150 (.prim p150) .nil .nil) .nil) (.node 168 (.code ir168) (.node 165 (.code ir165) .nil .nil) .nil))) (.node 176 (.code ir176) (.node 173 (.code ir173) (.node 171 (.code ir171) (.node 170 (.code ir170) .nil .nil) (.node 172 (.code ir172) .nil .nil)) (.node 175 (.code ir175) (.node 174 (.code ir174) .nil .nil) .nil)) (.node 182 (.code ir182) (.node 178 (.code ir178) (.node 177 (.code ir177) .nil .nil) .nil) (.node 184 (.code ir184) (.node 183 (.code ir183) .nil .nil) .nil)))) (.node 218 (.code ir218) (.node 207 (.code ir207) (.node 200 (.code ir200) (.node 198 (.code ir198) (.node 197 (.code ir197) .nil .nil) (.node 199 (.code ir199) .nil .nil)) (.node 204 (.code ir204) (.node 201 (.code ir201) .nil .nil) .nil)) (.node 212 (.code ir212) (.node 209 (.code ir209) (.node 208 (.code ir208) .nil .nil) .nil) (.node 217 (.code ir217) (.node 216 (.code ir216) .nil .nil) .nil))) (.node 233 (.prim p233) (.node 225 (.code ir225) (.node 224 (.code ir224) (.node 221 (.code ir221) .nil .nil) .nil) (.node 230 (.code ir230) (.node 229 (.code ir229) .nil .nil) .nil)) (.node 261 (.code ir261) (.node 248 (.code ir248) (.node 247 (.code ir247) .nil .nil) .nil) (.node 263 (.code ir263) (.node 262 (.code ir262) .nil .nil) .nil))))))
theorem tbA_ok [Laid G] [Errs G] : tbA.Ok Tryz.prog G := ⟨has132, ⟨has87, ⟨has63, ⟨has43, ⟨has24, ⟨has20, ⟨has17, trivial, trivial⟩, ⟨has22, trivial, trivial⟩⟩, ⟨has38, ⟨has29, trivial, trivial⟩, trivial⟩⟩, ⟨has49, ⟨has47, ⟨has46, trivial, trivial⟩, trivial⟩, ⟨q62, ⟨has57, trivial, trivial⟩, trivial⟩⟩⟩, ⟨has76, ⟨has67, ⟨q65, ⟨q64, trivial, trivial⟩, ⟨has66, trivial, trivial⟩⟩, ⟨has75, ⟨has69, trivial, trivial⟩, trivial⟩⟩, ⟨has79, ⟨has78, ⟨has77, trivial, trivial⟩, trivial⟩, ⟨has86, ⟨has80, trivial, trivial⟩, trivial⟩⟩⟩⟩, ⟨has118, ⟨has103, ⟨has92, ⟨has90, ⟨has89, trivial, trivial⟩, ⟨has91, trivial, trivial⟩⟩, ⟨has94, ⟨has93, trivial, trivial⟩, trivial⟩⟩, ⟨has111, ⟨has105, ⟨has104, trivial, trivial⟩, trivial⟩, ⟨has113, ⟨has112, trivial, trivial⟩, trivial⟩⟩⟩, ⟨has126, ⟨has121, ⟨has120, ⟨has119, trivial, trivial⟩, trivial⟩, ⟨has125, ⟨has122, trivial, trivial⟩, trivial⟩⟩, ⟨has129, ⟨has128, ⟨has127, trivial, trivial⟩, trivial⟩, ⟨has131, ⟨has130, trivial, trivial⟩, trivial⟩⟩⟩⟩⟩, ⟨has186, ⟨has169, ⟨q149, ⟨has146, ⟨has134, ⟨has133, trivial, trivial⟩, ⟨q145, trivial, trivial⟩⟩, ⟨has148, ⟨has147, trivial, trivial⟩, trivial⟩⟩, ⟨has161, ⟨has151, ⟨q150, trivial, trivial⟩, trivial⟩, ⟨has168, ⟨has165, trivial, trivial⟩, trivial⟩⟩⟩, ⟨has176, ⟨has173, ⟨has171, ⟨has170, trivial, trivial⟩, ⟨has172, trivial, trivial⟩⟩, ⟨has175, ⟨has174, trivial, trivial⟩, trivial⟩⟩, ⟨has182, ⟨has178, ⟨has177, trivial, trivial⟩, trivial⟩, ⟨has184, ⟨has183, trivial, trivial⟩, trivial⟩⟩⟩⟩, ⟨has218, ⟨has207, ⟨has200, ⟨has198, ⟨has197, trivial, trivial⟩, ⟨has199, trivial, trivial⟩⟩, ⟨has204, ⟨has201, trivial, trivial⟩, trivial⟩⟩, ⟨has212, ⟨has209, ⟨has208, trivial, trivial⟩, trivial⟩, ⟨has217, ⟨has216, trivial, trivial⟩, trivial⟩⟩⟩, ⟨q233, ⟨has225, ⟨has224, ⟨has221, trivial, trivial⟩, trivial⟩, ⟨has230, ⟨has229, trivial, trivial⟩, trivial⟩⟩, ⟨has261, ⟨has248, ⟨has247, trivial, trivial⟩, trivial⟩, ⟨has263, ⟨has262, trivial, trivial⟩, trivial⟩⟩⟩⟩⟩⟩
end Gx

/- Part Ev1. -/
namespace Gx
open Go Go.Proofs Gx
set_option maxRecDepth 100000
theorem evA0 : callE tbA 500 100 38 [.str [97, 10, 45, 45, 45, 10, 98, 58, 32, 53, 10]] [] = some (.tup [.sl false [.agg [.int .i64 0, .str [97], .int .i64 1], .agg [.int .i64 0, .str [45, 45, 45], .int .i64 2], .agg [.int .i64 0, .str [98, 58, 32, 53], .int .i64 3]], .agg [.int .i64 0, .int .i64 0]], []) := by kernel_rfl
theorem evA1 : callE tbA 500 100 20 [.sl false [.agg [.int .i64 0, .str [97], .int .i64 1]]] [] = some (.tup [.agg [.int .i64 4, .str [97], .str [], .sl false []], .agg [.int .i64 0, .int .i64 0]], []) := by kernel_rfl
theorem evA3 : callE tbA 500 100 20 [.sl false []] [] = some (.tup [.agg [.int .i64 1, .str [], .str [], .sl false []], .agg [.int .i64 0, .int .i64 0]], []) := by kernel_rfl
end Gx

/- Part Ev2. -/
namespace Gx
open Go Go.Proofs Gx
set_option maxRecDepth 100000
theorem evA2 : callE tbA 500 100 20 [.sl false [.agg [.int .i64 0, .str [98, 58, 32, 53], .int .i64 3]]] [] = some (.tup [.agg [.int .i64 6, .str [], .str [], .sl false [.agg [.int .i64 4, .str [98], .str [], .sl false []], .agg [.int .i64 3, .str [53], .str [], .sl false []]]], .agg [.int .i64 0, .int .i64 0]], []) := by kernel_rfl
end Gx

/- Part A16. -/
/- grommetlaw11's alive. -/
set_option linter.unusedSimpArgs false
set_option linter.unusedVariables false
namespace Gx
open Go Go.Proofs Go.RowKit
variable {G : Nat → Option Obj}
def r16 : List Row := [⟨0, [97], 1⟩, ⟨0, [45, 45, 45], 2⟩, ⟨0, [98, 58, 32, 53], 3⟩]
theorem parts16 : parts r16 = [[⟨0, [97], 1⟩], [⟨0, [98, 58, 32, 53], 3⟩]] := by kernel_rfl
def first16 (p : List Row) : Bool := match p with
  | r :: _ => decide (r.at_ = 1)
  | [] => false
theorem m16 [Laid G] [Errs G] (σ : St) : ARet Tryz.prog G 16 [] σ (.bool true) σ := by
  have h15 := k15a (G := G) (s := [97, 10, 45, 45, 45, 10, 98, 58, 32, 53, 10]) (l := r16) (fun σ => aret_frame (aret_run tbA_ok 500 100 evA0) rfl rfl rfl rfl σ) (by simp [r16])
    (fun p => if first16 p then 4 else 6) (fun p => if first16 p then [97] else []) (fun _ => []) (fun p => if first16 p then [] else [.agg [.int .i64 4, .str [98], .str [], .sl false []], .agg [.int .i64 3, .str [53], .str [], .sl false []]])
    (fun p hp σ => by
      rw [parts16] at hp
      simp only [List.mem_cons, List.not_mem_nil, or_false] at hp
      rcases hp with rfl | rfl
      · exact aret_frame (aret_run tbA_ok 500 100 evA1) rfl rfl rfl rfl σ
      · exact aret_frame (aret_run tbA_ok 500 100 evA2) rfl rfl rfl rfl σ)
    (fun n p => by split <;> rfl) (by rw [parts16]; simp)
  rw [parts16] at h15
  refine ret_of has16 (Nat.le_of_ble_eq_true rfl) ?_
  simp only [ir16]
  simp (maxSteps := 1000000) (disch := omega) only [rb0, rb1, rb2, rb3, rb4, rb5, Od.ev, Ao.dst, Nat.reduceEqDiff, ↓reduceIte, reduceIte, reduceCtorEq, Nat.reduceAdd, Nat.reduceLeDiff, Nat.reduceSub, Int.reduceToNat, byt, Nat.reduceBEq]
  refine cw_of (h15 _) ?_
  simp only [flt, treeOf, first16, List.map_cons, List.map_nil, decide_true, if_true]
  repeat' (first | simp (maxSteps := 1000000) (disch := omega) only [rb0, rb1, rb2, rb3, rb4, rb5, Od.ev, Ao.dst, Nat.reduceEqDiff, ↓reduceIte, reduceIte, reduceCtorEq, Nat.reduceAdd, Nat.reduceLeDiff, Nat.reduceSub, Int.reduceToNat, byt, Nat.reduceBEq] | with_reducible refine lw_of (fun _ => ?_) | with_reducible exact True.intro | with_reducible refine fin_same ?_ | with_reducible refine fin_loc ?_ ?_ ?_ | with_reducible exact Loc.refl _ | with_reducible refine Loc.push ?_ _ _ | with_reducible refine Loc.set ?_ _ _ (by first | omega | (simp only [push_n, set_n]; omega)) | with_reducible refine And.intro (by omega) ?_)
  trace_state
end Gx
