import Derived.Test.YtgbkgdhnfjndgaaGreatDoorE5
/- A part of the proof: a calculus of values over the model, and the functions that the statement reaches, each once, in that calculus. -/
set_option linter.all false
set_option linter.unusedSimpArgs false
set_option linter.unusedVariables false

/- Part S4. -/
/- grommetlaw11.LoadEmpty: its walk. -/
set_option linter.unusedSimpArgs false
set_option linter.unusedVariables false
namespace Gx
open Go Go.Proofs Go.RowKit
variable {G : Nat → Option Obj}
theorem add_rep (p0 : List UInt8) (k : Nat) (p : List UInt8) (h : p0.length + k * p.length + p.length < 2 ^ 63) : bop .add (.str (p0 ++ rep k p)) (.str p) = some (.str (p0 ++ rep (k + 1) p)) := by
  have hl : (rep k p).length = k * p.length := by unfold rep; simp
  rw [bop_sadd (by rw [List.length_append, hl]; omega), rep_succ, List.append_assoc]
theorem read_E [Laid G] {n e : Nat} (hn : n < 70) (he : e < 5) (σ : St) : ARet Tryz.prog G 38 [.str (txtE n e)] σ (.tup [.sl false (rowsPv (rowsE n e)), flt 0 0]) σ := by
  have h := okE_of hn he
  simp only [okE, Bool.and_eq_true, decide_eq_true_eq] at h
  have h38 := k38 (G := G) σ (txtE n e)
  unfold readS at h38
  rw [if_neg (by omega), rd_good _ 0 [] (fun x hx => goodE_ok (List.all_eq_true.1 h.1.1.2 x hx))] at h38
  exact h38
theorem load_le [Laid G] [Errs G] {n e : Nat} (hn : n < 70) (he : e < 5) (h64 : n ≤ 64) (σ : St) : ARet Tryz.prog G 15 [.str (txtE n e)] σ (.tup [.sl false (List.replicate n (treeOf 1 [] [] [])), flt 0 0]) σ := by
  have h := okE_of hn he
  simp only [okE, h64, if_true, Bool.and_eq_true, decide_eq_true_eq] at h
  have hp : parts (rowsE n e) = List.replicate n [] := by
    rw [List.eq_replicate_iff]
    refine ⟨by simpa [parts] using h.2.1, fun p hp => ?_⟩
    obtain ⟨x, hx, rfl⟩ := List.mem_map.1 hp
    simpa using List.all_eq_true.1 h.2.2 x hx
  have := k15a (G := G) (s := txtE n e) (l := rowsE n e) (fun σ => read_E hn he σ) (by omega) (fun _ => 1) (fun _ => []) (fun _ => []) (fun _ => []) (fun p hm σ => by
    rw [hp] at hm
    obtain rfl := List.eq_of_mem_replicate hm
    exact aret_frame (aret_run tbA_ok 500 100 evA3) rfl rfl rfl rfl σ) (fun _ _ => rfl) (by rw [hp]; simpa using h64) σ
  rw [hp, List.map_replicate] at this
  exact this
theorem load_gt [Laid G] [Errs G] {n e : Nat} (hn : n < 70) (he : e < 5) (h64 : ¬ n ≤ 64) (σ : St) : ARet Tryz.prog G 15 [.str (txtE n e)] σ (.tup [.sl false [], flt 5 (2 * (e : Int) + 65)]) σ := by
  have h := okE_of hn he
  simp only [okE, h64, if_false, Bool.and_eq_true, decide_eq_true_eq] at h
  obtain ⟨⟨⟨h1, h2⟩, h3⟩, h4⟩ := h
  cases hx : (eachL (rowsE n e))[64]? with
  | none => rw [hx] at h4; simp at h4
  | some x =>
    rw [hx] at h4
    simp only at h4
    cases hr : (rowsE n e)[x.1 - 1]? with
    | none => rw [hr] at h4; simp at h4
    | some rr =>
      rw [hr] at h4
      simp only [decide_eq_true_eq] at h4
      have := k15b (G := G) (s := txtE n e) (l := rowsE n e) (fun σ => read_E hn he σ) (by omega) x hx rr hr σ
      rw [h4] at this
      exact this
theorem m3 [Laid G] [Errs G] (σ : St) (a b : Nat) (ha : a < 256) (hb : b < 256) : ARet Tryz.prog G 3 [.int .u8 a, .int .u8 b] σ (.bool true) σ := by
  refine ret_of has3 (Nat.le_of_ble_eq_true rfl) ?_
  simp only [ir3]
  have ht70 : ((a : Int)).tmod 70 = ((a % 70 : Nat) : Int) := by rw [Int.tmod_eq_emod_of_nonneg (by omega)]; omega
  have ht5 : ((b : Int)).tmod 5 = ((b % 5 : Nat) : Int) := by rw [Int.tmod_eq_emod_of_nonneg (by omega)]; omega
  have hw5 : IntKind.i64.wrap ((b % 5 : Nat) : Int) = ((b % 5 : Nat) : Int) := wrap64 (by omega)
  repeat' (first | simp (maxSteps := 1000000) (disch := omega) only [rb0, rb1, rb2, rb3, rb4, rb5, Od.ev, Ao.dst, Nat.reduceEqDiff, ↓reduceIte, reduceIte, reduceCtorEq, Nat.reduceAdd, Nat.reduceLeDiff, Nat.reduceSub, Int.reduceToNat, byt, Nat.reduceBEq, ht70, ht5, hw5] | with_reducible refine lw_of (fun _ => ?_) | with_reducible exact True.intro | with_reducible refine fin_same ?_ | with_reducible refine fin_loc ?_ ?_ ?_ | with_reducible exact Loc.refl _ | with_reducible refine Loc.push ?_ _ _ | with_reducible refine Loc.set ?_ _ _ (by first | omega | (simp only [push_n, set_n]; omega)) | with_reducible refine And.intro (by omega) ?_)
  refine loop_rule (fun n ρ σ' => σ' = σ ∧ ∃ k : Nat, n = b % 5 - k ∧ k ≤ b % 5 ∧ ρ 1 = .int .u8 b ∧ ρ 5 = .int .i64 (a % 70 : Nat) ∧ ρ 6 = .str (rep k [35, 32, 110, 10, 10]) ∧ ρ 17 = .int .i64 (b % 5 : Nat) ∧ ρ 18 = .int .i64 k) (fun n ρ σ' hI => ?_) ⟨rfl, 0, rfl, by omega, by simp (maxSteps := 1000000) (disch := omega) only [rb0, rb1, rb2, rb3, rb4, rb5, Od.ev, Ao.dst, Nat.reduceEqDiff, ↓reduceIte, reduceIte, reduceCtorEq, Nat.reduceAdd, Nat.reduceLeDiff, Nat.reduceSub, Int.reduceToNat, byt, Nat.reduceBEq], by simp (maxSteps := 1000000) (disch := omega) only [rb0, rb1, rb2, rb3, rb4, rb5, Od.ev, Ao.dst, Nat.reduceEqDiff, ↓reduceIte, reduceIte, reduceCtorEq, Nat.reduceAdd, Nat.reduceLeDiff, Nat.reduceSub, Int.reduceToNat, byt, Nat.reduceBEq], by simp (maxSteps := 1000000) (disch := omega) only [rb0, rb1, rb2, rb3, rb4, rb5, Od.ev, Ao.dst, Nat.reduceEqDiff, ↓reduceIte, reduceIte, reduceCtorEq, Nat.reduceAdd, Nat.reduceLeDiff, Nat.reduceSub, Int.reduceToNat, byt, Nat.reduceBEq]; rfl, by simp (maxSteps := 1000000) (disch := omega) only [rb0, rb1, rb2, rb3, rb4, rb5, Od.ev, Ao.dst, Nat.reduceEqDiff, ↓reduceIte, reduceIte, reduceCtorEq, Nat.reduceAdd, Nat.reduceLeDiff, Nat.reduceSub, Int.reduceToNat, byt, Nat.reduceBEq], by simp (maxSteps := 1000000) (disch := omega) only [rb0, rb1, rb2, rb3, rb4, rb5, Od.ev, Ao.dst, Nat.reduceEqDiff, ↓reduceIte, reduceIte, reduceCtorEq, Nat.reduceAdd, Nat.reduceLeDiff, Nat.reduceSub, Int.reduceToNat, byt, Nat.reduceBEq]⟩
  obtain ⟨rfl, k, rfl, hk, e1, e5, e6, e17, e18⟩ := hI
  repeat' (first | simp (maxSteps := 1000000) (disch := omega) only [rb0, rb1, rb2, rb3, rb4, rb5, Od.ev, Ao.dst, Nat.reduceEqDiff, ↓reduceIte, reduceIte, reduceCtorEq, Nat.reduceAdd, Nat.reduceLeDiff, Nat.reduceSub, Int.reduceToNat, byt, Nat.reduceBEq, e17, e18] | with_reducible refine lw_of (fun _ => ?_) | with_reducible exact True.intro | with_reducible refine fin_same ?_ | with_reducible refine fin_loc ?_ ?_ ?_ | with_reducible exact Loc.refl _ | with_reducible refine Loc.push ?_ _ _ | with_reducible refine Loc.set ?_ _ _ (by first | omega | (simp only [push_n, set_n]; omega)) | with_reducible refine And.intro (by omega) ?_)
  refine bw_dec (fun hlt => ?_) (fun hlt => ?_)
  · have hw : IntKind.i64.wrap ((k : Int) + 1) = (k : Int) + 1 := wrap64 (by omega)
    have hadd := add_rep [] k [35, 32, 110, 10, 10] (by simp; omega)
    simp only [List.nil_append] at hadd
    repeat' (first | simp (maxSteps := 1000000) (disch := omega) only [rb0, rb1, rb2, rb3, rb4, rb5, Od.ev, Ao.dst, Nat.reduceEqDiff, ↓reduceIte, reduceIte, reduceCtorEq, Nat.reduceAdd, Nat.reduceLeDiff, Nat.reduceSub, Int.reduceToNat, byt, Nat.reduceBEq, e1, e5, e6, e17, e18, hw, hadd] | with_reducible refine lw_of (fun _ => ?_) | with_reducible exact True.intro | with_reducible refine fin_same ?_ | with_reducible refine fin_loc ?_ ?_ ?_ | with_reducible exact Loc.refl _ | with_reducible refine Loc.push ?_ _ _ | with_reducible refine Loc.set ?_ _ _ (by first | omega | (simp only [push_n, set_n]; omega)) | with_reducible refine And.intro (by omega) ?_)
    exact ⟨_, by omega, k + 1, rfl, by omega, rfl, by omega⟩
  · obtain rfl : k = b % 5 := by omega
    have hm2 : IntKind.i64.wrap (2 * ((b % 5 : Nat) : Int)) = 2 * ((b % 5 : Nat) : Int) := wrap64 (by omega)
    repeat' (first | simp (maxSteps := 1000000) (disch := omega) only [rb0, rb1, rb2, rb3, rb4, rb5, Od.ev, Ao.dst, Nat.reduceEqDiff, ↓reduceIte, reduceIte, reduceCtorEq, Nat.reduceAdd, Nat.reduceLeDiff, Nat.reduceSub, Int.reduceToNat, byt, Nat.reduceBEq, e1, e5, e6, e17, e18, ht5, hw5, hm2] | with_reducible refine lw_of (fun _ => ?_) | with_reducible exact True.intro | with_reducible refine fin_same ?_ | with_reducible refine fin_loc ?_ ?_ ?_ | with_reducible exact Loc.refl _ | with_reducible refine Loc.push ?_ _ _ | with_reducible refine Loc.set ?_ _ _ (by first | omega | (simp only [push_n, set_n]; omega)) | with_reducible refine And.intro (by omega) ?_)
    clear e1 e17 e18 hlt hk
    refine loop_rule (fun n ρ σ1 => σ1 = σ' ∧ ∃ k : Nat, n = a % 70 - k ∧ k ≤ a % 70 ∧ ρ 5 = .int .i64 (a % 70 : Nat) ∧ ρ 7 = .int .i64 (2 * ((b % 5 : Nat) : Int)) ∧ ρ 6 = .str (rep (b % 5) [35, 32, 110, 10, 10] ++ rep k [45, 45, 45, 10]) ∧ ρ 27 = .int .i64 (a % 70 : Nat) ∧ ρ 28 = .int .i64 k) (fun n ρ σ1 hI => ?_) ⟨rfl, 0, rfl, by omega, by simp (maxSteps := 1000000) (disch := omega) only [rb0, rb1, rb2, rb3, rb4, rb5, Od.ev, Ao.dst, Nat.reduceEqDiff, ↓reduceIte, reduceIte, reduceCtorEq, Nat.reduceAdd, Nat.reduceLeDiff, Nat.reduceSub, Int.reduceToNat, byt, Nat.reduceBEq, e5], by simp (maxSteps := 1000000) (disch := omega) only [rb0, rb1, rb2, rb3, rb4, rb5, Od.ev, Ao.dst, Nat.reduceEqDiff, ↓reduceIte, reduceIte, reduceCtorEq, Nat.reduceAdd, Nat.reduceLeDiff, Nat.reduceSub, Int.reduceToNat, byt, Nat.reduceBEq], by simp (maxSteps := 1000000) (disch := omega) only [rb0, rb1, rb2, rb3, rb4, rb5, Od.ev, Ao.dst, Nat.reduceEqDiff, ↓reduceIte, reduceIte, reduceCtorEq, Nat.reduceAdd, Nat.reduceLeDiff, Nat.reduceSub, Int.reduceToNat, byt, Nat.reduceBEq, e6]; simp [rep], by simp (maxSteps := 1000000) (disch := omega) only [rb0, rb1, rb2, rb3, rb4, rb5, Od.ev, Ao.dst, Nat.reduceEqDiff, ↓reduceIte, reduceIte, reduceCtorEq, Nat.reduceAdd, Nat.reduceLeDiff, Nat.reduceSub, Int.reduceToNat, byt, Nat.reduceBEq], by simp (maxSteps := 1000000) (disch := omega) only [rb0, rb1, rb2, rb3, rb4, rb5, Od.ev, Ao.dst, Nat.reduceEqDiff, ↓reduceIte, reduceIte, reduceCtorEq, Nat.reduceAdd, Nat.reduceLeDiff, Nat.reduceSub, Int.reduceToNat, byt, Nat.reduceBEq]⟩
    clear e5 e6
    obtain ⟨rfl, k, rfl, hk, e5, e7, e6, e27, e28⟩ := hI
    repeat' (first | simp (maxSteps := 1000000) (disch := omega) only [rb0, rb1, rb2, rb3, rb4, rb5, Od.ev, Ao.dst, Nat.reduceEqDiff, ↓reduceIte, reduceIte, reduceCtorEq, Nat.reduceAdd, Nat.reduceLeDiff, Nat.reduceSub, Int.reduceToNat, byt, Nat.reduceBEq, e27, e28] | with_reducible refine lw_of (fun _ => ?_) | with_reducible exact True.intro | with_reducible refine fin_same ?_ | with_reducible refine fin_loc ?_ ?_ ?_ | with_reducible exact Loc.refl _ | with_reducible refine Loc.push ?_ _ _ | with_reducible refine Loc.set ?_ _ _ (by first | omega | (simp only [push_n, set_n]; omega)) | with_reducible refine And.intro (by omega) ?_)
    refine bw_dec (fun hlt => ?_) (fun hlt => ?_)
    · have hw : IntKind.i64.wrap ((k : Int) + 1) = (k : Int) + 1 := wrap64 (by omega)
      have hadd := add_rep (rep (b % 5) [35, 32, 110, 10, 10]) k [45, 45, 45, 10] (by simp [rep]; omega)
      repeat' (first | simp (maxSteps := 1000000) (disch := omega) only [rb0, rb1, rb2, rb3, rb4, rb5, Od.ev, Ao.dst, Nat.reduceEqDiff, ↓reduceIte, reduceIte, reduceCtorEq, Nat.reduceAdd, Nat.reduceLeDiff, Nat.reduceSub, Int.reduceToNat, byt, Nat.reduceBEq, e5, e6, e7, e27, e28, hw, hadd] | with_reducible refine lw_of (fun _ => ?_) | with_reducible exact True.intro | with_reducible refine fin_same ?_ | with_reducible refine fin_loc ?_ ?_ ?_ | with_reducible exact Loc.refl _ | with_reducible refine Loc.push ?_ _ _ | with_reducible refine Loc.set ?_ _ _ (by first | omega | (simp only [push_n, set_n]; omega)) | with_reducible refine And.intro (by omega) ?_)
      exact ⟨_, by omega, k + 1, rfl, by omega, rfl, by omega⟩
    · obtain rfl : k = a % 70 := by omega
      have e6' : ρ 6 = .str (txtE (a % 70) (b % 5)) := e6
      clear e6 e27 e28 hlt hk
      obtain ⟨n, hn⟩ : ∃ n, n = a % 70 := ⟨_, rfl⟩
      obtain ⟨e, he⟩ : ∃ e, e = b % 5 := ⟨_, rfl⟩
      have hn70 : n < 70 := by omega
      have he5 : e < 5 := by omega
      rw [← hn] at e5 e6'
      rw [← he] at e6' e7
      clear ht70 ht5 hw5 hm2
      by_cases h64 : n ≤ 64
      · have h15 := load_le (G := G) hn70 he5 h64
        repeat' (first | simp (maxSteps := 1000000) (disch := omega) only [rb0, rb1, rb2, rb3, rb4, rb5, Od.ev, Ao.dst, Nat.reduceEqDiff, ↓reduceIte, reduceIte, reduceCtorEq, Nat.reduceAdd, Nat.reduceLeDiff, Nat.reduceSub, Int.reduceToNat, byt, Nat.reduceBEq, e5, e6', e7] | with_reducible refine lw_of (fun _ => ?_) | with_reducible exact True.intro | with_reducible refine fin_same ?_ | with_reducible refine fin_loc ?_ ?_ ?_ | with_reducible exact Loc.refl _ | with_reducible refine Loc.push ?_ _ _ | with_reducible refine Loc.set ?_ _ _ (by first | omega | (simp only [push_n, set_n]; omega)) | with_reducible refine And.intro (by omega) ?_)
        refine cw_of (h15 _) ?_
        repeat' (first | simp (maxSteps := 1000000) (disch := omega) only [rb0, rb1, rb2, rb3, rb4, rb5, Od.ev, Ao.dst, Nat.reduceEqDiff, ↓reduceIte, reduceIte, reduceCtorEq, Nat.reduceAdd, Nat.reduceLeDiff, Nat.reduceSub, Int.reduceToNat, byt, Nat.reduceBEq, e5, e6', e7, flt, List.length_replicate] | with_reducible refine lw_of (fun _ => ?_) | with_reducible exact True.intro | with_reducible refine fin_same ?_ | with_reducible refine fin_loc ?_ ?_ ?_ | with_reducible exact Loc.refl _ | with_reducible refine Loc.push ?_ _ _ | with_reducible refine Loc.set ?_ _ _ (by first | omega | (simp only [push_n, set_n]; omega)) | with_reducible refine And.intro (by omega) ?_)
        refine loop_rule (fun m ρ σ' => Loc σ1 σ' ∧ ∃ k : Nat, m = n - k ∧ k ≤ n ∧ ρ 62 = .sl false (List.replicate n (treeOf 1 [] [] [])) ∧ ρ 63 = .int .i64 n ∧ ρ 64 = .int .i64 k) (fun m ρ' σ' hI => ?_) ⟨(Loc.refl σ1).push _ _ |>.set _ _ (Nat.le_refl _), 0, rfl, by omega, by simp (maxSteps := 1000000) (disch := omega) only [rb0, rb1, rb2, rb3, rb4, rb5, Od.ev, Ao.dst, Nat.reduceEqDiff, ↓reduceIte, reduceIte, reduceCtorEq, Nat.reduceAdd, Nat.reduceLeDiff, Nat.reduceSub, Int.reduceToNat, byt, Nat.reduceBEq], by simp (maxSteps := 1000000) (disch := omega) only [rb0, rb1, rb2, rb3, rb4, rb5, Od.ev, Ao.dst, Nat.reduceEqDiff, ↓reduceIte, reduceIte, reduceCtorEq, Nat.reduceAdd, Nat.reduceLeDiff, Nat.reduceSub, Int.reduceToNat, byt, Nat.reduceBEq], by simp (maxSteps := 1000000) (disch := omega) only [rb0, rb1, rb2, rb3, rb4, rb5, Od.ev, Ao.dst, Nat.reduceEqDiff, ↓reduceIte, reduceIte, reduceCtorEq, Nat.reduceAdd, Nat.reduceLeDiff, Nat.reduceSub, Int.reduceToNat, byt, Nat.reduceBEq]⟩
        obtain ⟨hl, k, rfl, hk, e62, e63, e64⟩ := hI
        repeat' (first | simp (maxSteps := 1000000) (disch := omega) only [rb0, rb1, rb2, rb3, rb4, rb5, Od.ev, Ao.dst, Nat.reduceEqDiff, ↓reduceIte, reduceIte, reduceCtorEq, Nat.reduceAdd, Nat.reduceLeDiff, Nat.reduceSub, Int.reduceToNat, byt, Nat.reduceBEq, e63, e64] | with_reducible refine lw_of (fun _ => ?_) | with_reducible exact True.intro | with_reducible refine fin_same ?_ | with_reducible refine fin_loc ?_ ?_ ?_ | with_reducible exact Loc.refl _ | with_reducible refine Loc.push ?_ _ _ | with_reducible refine Loc.set ?_ _ _ (by first | omega | (simp only [push_n, set_n]; omega)) | with_reducible refine And.intro (by omega) ?_)
        refine bw_dec (fun hlt => ?_) (fun hlt => ?_)
        · have hw : IntKind.i64.wrap ((k : Int) + 1) = (k : Int) + 1 := wrap64 (by omega)
          have hg : (List.replicate n (treeOf 1 [] [] []))[k]? = some (treeOf 1 [] [] []) := by rw [List.getElem?_replicate]; simp; omega
          simp only [treeOf] at hg e62
          repeat' (first | simp (maxSteps := 1000000) (disch := omega) only [rb0, rb1, rb2, rb3, rb4, rb5, Od.ev, Ao.dst, Nat.reduceEqDiff, ↓reduceIte, reduceIte, reduceCtorEq, Nat.reduceAdd, Nat.reduceLeDiff, Nat.reduceSub, Int.reduceToNat, byt, Nat.reduceBEq, e62, e63, e64, hg, treeOf, hw] | with_reducible refine lw_of (fun _ => ?_) | with_reducible exact True.intro | with_reducible refine fin_same ?_ | with_reducible refine fin_loc ?_ ?_ ?_ | with_reducible exact Loc.refl _ | with_reducible refine Loc.push ?_ _ _ | with_reducible refine Loc.set ?_ _ _ (by first | omega | (simp only [push_n, set_n]; omega)) | with_reducible refine And.intro (by omega) ?_)
          refine cw_of (aret_frame (aret_run (G := G) tbA_ok 500 100 evA4) rfl rfl rfl rfl _) ?_
          repeat' (first | simp (maxSteps := 1000000) (disch := omega) only [rb0, rb1, rb2, rb3, rb4, rb5, Od.ev, Ao.dst, Nat.reduceEqDiff, ↓reduceIte, reduceIte, reduceCtorEq, Nat.reduceAdd, Nat.reduceLeDiff, Nat.reduceSub, Int.reduceToNat, byt, Nat.reduceBEq, e62, e63, e64, hg, treeOf, hw] | with_reducible refine lw_of (fun _ => ?_) | with_reducible exact True.intro | with_reducible refine fin_same ?_ | with_reducible refine fin_loc ?_ ?_ ?_ | with_reducible exact Loc.refl _ | with_reducible refine Loc.push ?_ _ _ | with_reducible refine Loc.set ?_ _ _ (by first | omega | (simp only [push_n, set_n]; omega)) | with_reducible refine And.intro (by omega) ?_)
          exact ⟨_, by omega, (hl.push _ _).set _ _ hl.1, k + 1, rfl, by omega, by omega⟩
        · repeat' (first | simp (maxSteps := 1000000) (disch := omega) only [rb0, rb1, rb2, rb3, rb4, rb5, Od.ev, Ao.dst, Nat.reduceEqDiff, ↓reduceIte, reduceIte, reduceCtorEq, Nat.reduceAdd, Nat.reduceLeDiff, Nat.reduceSub, Int.reduceToNat, byt, Nat.reduceBEq] | with_reducible refine lw_of (fun _ => ?_) | with_reducible exact True.intro | with_reducible refine fin_same ?_ | with_reducible refine fin_loc ?_ ?_ ?_ | with_reducible exact Loc.refl _ | with_reducible refine Loc.push ?_ _ _ | with_reducible refine Loc.set ?_ _ _ (by first | omega | (simp only [push_n, set_n]; omega)) | with_reducible refine And.intro (by omega) ?_ | with_reducible refine cw_of (m16 _) ?_)
          exact hl
      · have h15 := load_gt (G := G) hn70 he5 h64
        have hw65 : IntKind.i64.wrap (2 * (e : Int) + 65) = 2 * (e : Int) + 65 := wrap64 (by omega)
        repeat' (first | simp (maxSteps := 1000000) (disch := omega) only [rb0, rb1, rb2, rb3, rb4, rb5, Od.ev, Ao.dst, Nat.reduceEqDiff, ↓reduceIte, reduceIte, reduceCtorEq, Nat.reduceAdd, Nat.reduceLeDiff, Nat.reduceSub, Int.reduceToNat, byt, Nat.reduceBEq, e5, e6', e7] | with_reducible refine lw_of (fun _ => ?_) | with_reducible exact True.intro | with_reducible refine fin_same ?_ | with_reducible refine fin_loc ?_ ?_ ?_ | with_reducible exact Loc.refl _ | with_reducible refine Loc.push ?_ _ _ | with_reducible refine Loc.set ?_ _ _ (by first | omega | (simp only [push_n, set_n]; omega)) | with_reducible refine And.intro (by omega) ?_)
        refine cw_of (h15 _) ?_
        repeat' (first | simp (maxSteps := 1000000) (disch := omega) only [rb0, rb1, rb2, rb3, rb4, rb5, Od.ev, Ao.dst, Nat.reduceEqDiff, ↓reduceIte, reduceIte, reduceCtorEq, Nat.reduceAdd, Nat.reduceLeDiff, Nat.reduceSub, Int.reduceToNat, byt, Nat.reduceBEq, e5, e6', e7, flt, hw65] | with_reducible refine lw_of (fun _ => ?_) | with_reducible exact True.intro | with_reducible refine fin_same ?_ | with_reducible refine fin_loc ?_ ?_ ?_ | with_reducible exact Loc.refl _ | with_reducible refine Loc.push ?_ _ _ | with_reducible refine Loc.set ?_ _ _ (by first | omega | (simp only [push_n, set_n]; omega)) | with_reducible refine And.intro (by omega) ?_ | with_reducible refine cw_of (m16 _) ?_)
end Gx
