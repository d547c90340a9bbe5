import Derived.Test.YtgbkgdhnfjndgaaGreatDoorE6
/- A part of the proof: a calculus of values over the model, and the functions that the statement reaches, each once, in that calculus. -/
set_option linter.all false
set_option linter.unusedSimpArgs false
set_option linter.unusedVariables false

/- Part Ad3a. -/
/- LoadEmpty: from the calculus to the row. -/
set_option linter.unusedSimpArgs false
set_option linter.unusedVariables false
namespace Gx
open Go Go.Proofs Go.RowKit Go.ChangeShapes Go.WideShapes Go.Lib
open Go.Proofs.YtgbkgdhnfjndgaaGreatDoor

theorem readable3 : ∀ t, t = 5 ∨ t = 5 → Tryz.prog.readableRec t = true ∧ t < Tryz.prog.types.size := by
  intro t ht
  rcases ht with rfl | rfl <;> exact ⟨by kernel_rfl, of_decide_eq_true (by kernel_rfl)⟩
theorem laidEq3 : Rows.loadEmptyRow.laid = Rows.loadPartsRow.laid := rfl
set_option maxRecDepth 100000 in
theorem contract3 (H : Type) (enc : TypeId × Value → H) (W : World) (base : Nat) (args : Array Value) (ds gs : List (DataW H)) (before : List MemPlace)
    (hval : ∀ (j : Nat) t v, Tryz.f3.params[j]? = some t → args[j]? = some v → Value.okWide Tryz.prog W .any base t v)
    (hW : DataW.Whole enc Tryz.prog Tryz.f3.params.toList Rows.loadEmptySpec.vars false W args.toList ds gs before)
    (hsz : (DataW.weightsEach Tryz.prog (Tryz.f3.params.toList ++ Rows.loadEmptySpec.plain.varTypes Tryz.prog) (ds ++ gs)).all (· ≤ reachBytes) = true)
    (hL : laidMetH Tryz.prog Rows.loadEmptyRow.laid W) :
    Calls Tryz.prog 3 args W fun e W' => ∃ v, e = .returned v ∧ Rows.loadEmptySpec.post enc Tryz.prog Tryz.f3 false true false false W args v W' := by
  have hW' := hW
  obtain ⟨p, q, hA0, hV, rfl, hfz, hnd⟩ := hW
  have hA : DataW.TrodAll enc Tryz.prog W 0 (fun _ => true) true Tryz.f3.params.toList args.toList ds p := hA0
  rw [Tryz.params3] at hA hval hsz
  obtain ⟨v0, vs0, d0, ds0, p0, q0, hargs0, rfl, rfl, h0, r0⟩ := trodAll_cons hA
  obtain ⟨v1, vs1, d1, ds1, p1, q1, hargs1, rfl, rfl, h1, r1⟩ := trodAll_cons r0
  obtain ⟨rfl, rfl, rfl⟩ := trodAll_nil r1
  subst hargs1
  obtain rfl : args = #[v0, v1] := by cases args; simp_all
  obtain ⟨rfl, rfl⟩ := trodVars_none hV
  have hT := tabs_of (laidEq3 ▸ hL)
  haveI := laid_gw hT
  haveI := errs_gw hT
  have hok0 := hval 0 5 v0 rfl rfl
  obtain ⟨n0, en0, ed0, ep0, wf0⟩ := open_int Tryz.underlying5 hok0 h0
  have b0 : 0 ≤ n0 ∧ n0 ≤ 255 := by simpa [Lit.wf, IntKind.min, IntKind.max, IntKind.signed, IntKind.bits] using wf0
  obtain ⟨m0, em0⟩ : ∃ m : Nat, n0 = m := ⟨n0.toNat, by omega⟩
  subst em0
  subst en0
  have hok1 := hval 1 5 v1 rfl rfl
  obtain ⟨n1, en1, ed1, ep1, wf1⟩ := open_int Tryz.underlying5 hok1 h1
  have b1 : 0 ≤ n1 ∧ n1 ≤ 255 := by simpa [Lit.wf, IntKind.min, IntKind.max, IntKind.signed, IntKind.bits] using wf1
  obtain ⟨m1, em1⟩ : ∃ m : Nat, n1 = m := ⟨n1.toNat, by omega⟩
  subst em1
  subst en1
  refine (calls_of_aret (m3 (G := gG W) (toSt []) m0 m1 (by omega) (by omega)) (gl_gz W) (vs := #[.int .u8 (m0 : Nat), .int .u8 (m1 : Nat)]) rfl (fun t ht => ?_)).mono ?_
  · match t, ht with
    | 0, _ => exact .sh (.int _ _)
    | 1, _ => exact .sh (.int _ _)
    | k + 2, ht => simp at ht; omega
  · rintro e W' ⟨v, rfl, hB, g', hr⟩
    obtain rfl : v = .bool true := by cases hr; rfl
    exact ⟨_, rfl, post_law hW' rfl (by kernel_rfl) rfl (by rw [Tryz.params3]; intro t ht; exact readable3 t (by simpa using ht)) hB⟩
set_option maxRecDepth 100000 in
theorem reads3 (os : Os) {H : Type} (enc : TypeId × Value → H) : ∃ places, DataW.whole enc Tryz.prog ((laidW os).forCall (fun _ _ => 0) ⟨#[], #[.int .u8 0, .int .u8 0], []⟩).memory Tryz.f3.params.toList Rows.loadEmptySpec.vars false (#[.int .u8 0, .int .u8 0] : Array Value).toList 8 = some ([.lit (.int .u8 0), .lit (.int .u8 0)], [], places) :=
  ⟨[], by kernel_rfl⟩
set_option maxRecDepth 100000 in
theorem lifted3 (os : Os) (started : os.Started) (H : Type) (enc : TypeId × Value → H) (F : Stop.Interp) :
    ReturnsInHanded {} Tryz.checked os 3 .any ((OpenSpec.ofChange Rows.loadEmptySpec).preRow enc Tryz.prog Tryz.f3 Rows.loadEmptyRow.domain false Rows.loadEmptyRow.laid) (((OpenSpec.ofChange Rows.loadEmptySpec).at F).post enc Tryz.prog Tryz.f3 false true false false) := by
  obtain ⟨places, hx⟩ := reads3 os enc
  refine returnsInHanded_of_row (C := Tryz.checked) (s := OpenSpec.ofChange Rows.loadEmptySpec) own started (by kernel_rfl) Tryz.func3
    (witness_row_atRef (enc := enc) (C := Tryz.checked) false (laidW os) #[.int .u8 0, .int .u8 0] (World.laidAll_os _ _ _) (laidW_vars os _) (laidW_rest os _) (by kernel_rfl)
      (OpenSpec.preRow_of_cond 8 hx (by kernel_rfl) (fun k hk => by cases hk) (by kernel_rfl) (laidEq3 ▸ laidW_met os _))) ?_
  intro W base args ds gs before hval hW _ _ hsz hL _ _
  exact contract3 H enc W base args ds gs before hval hW hsz hL
end Gx
