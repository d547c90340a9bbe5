import Derived.Test.YtgbkgdhnfjndgaaGreatDoorQ10
import Derived.Deep.DeepWitnessRowRef
import Derived.Lay
import Derived.OpenShut
import Derived.ProofKit
import Derived.Test.YtgbkgdhnfjndgaaGreatDoorCards
import Derived.WalkKit
/- A part of the proof: a calculus of values over the model, and the functions that the statement reaches, each once, in that calculus. -/
set_option linter.all false
set_option linter.unusedSimpArgs false
set_option linter.unusedVariables false

/- Part Ad3. -/
/- The rows of any documents. -/
set_option linter.unusedSimpArgs false
set_option linter.unusedVariables false
namespace Gx
open Go Go.Proofs Go.RowKit Go.ChangeShapes Go.WideShapes Go.Lib
open Go.Proofs.YtgbkgdhnfjndgaaGreatDoor

theorem own : ownKnob Tryz.prog.godebug = none := by kernel_rfl
theorem types33 : Tryz.prog.readableRec 33 = true ∧ 33 < Tryz.prog.types.size := ⟨by kernel_rfl, of_decide_eq_true (by kernel_rfl)⟩
theorem bytes48 : Tryz.prog.bytesOf 48 = 32 := by kernel_rfl

set_option maxRecDepth 100000 in
theorem contract10 (H : Type) (enc : TypeId × Value → H) (W : World) (base : Nat) (args : Array Value) (ds gs : List (DataW H)) (before : List MemPlace)
    (hval : ∀ (j : Nat) t v, Tryz.f10.params[j]? = some t → args[j]? = some v → Value.okWide Tryz.prog W .any base t v)
    (hW : DataW.Whole enc Tryz.prog Tryz.f10.params.toList Rows.loadPartsSpec.vars false W args.toList ds gs before)
    (hsz : (DataW.weightsEach Tryz.prog (Tryz.f10.params.toList ++ Rows.loadPartsSpec.plain.varTypes Tryz.prog) (ds ++ gs)).all (· ≤ reachBytes) = true)
    (hL : laidMetH Tryz.prog Rows.loadPartsRow.laid W) :
    Calls Tryz.prog 10 args W fun e W' => ∃ v, e = .returned v ∧ Rows.loadPartsSpec.post enc Tryz.prog Tryz.f10 false true false false W args v W' := by
  have hW' := hW
  obtain ⟨p, q, hA0, hV, rfl, hfz, hnd⟩ := hW
  have hA : DataW.TrodAll enc Tryz.prog W 0 (fun _ => true) true Tryz.f10.params.toList args.toList ds p := hA0
  rw [Tryz.params10] at hA hval hsz
  obtain ⟨v0, vs0, d0, ds0, p0, q0, hargs, rfl, rfl, h0, r0⟩ := trodAll_cons hA
  obtain ⟨rfl, rfl, rfl⟩ := trodAll_nil r0
  obtain rfl : args = #[v0] := by cases args; simp_all
  obtain ⟨rfl, rfl⟩ := trodVars_none hV
  have hok := hval 0 33 v0 rfl rfl
  obtain ⟨l, hR⟩ := rows_R hok h0 (fun e s hd => by
    subst hd
    have := sized_slice hsz (j := 0) (t := 33) (e := 48) (elems := e) (spare := s) rfl rfl Tryz.underlying33
    have h2 := reachBytes_lt
    rw [bytes48] at this
    omega)
  have hT := tabs_of hL
  haveI := laid_gw hT
  haveI := errs_gw hT
  refine (calls_of_aret (m10 (G := gG W) (fun σ => m16 σ) (toSt []) l) (gl_gz W) (vs := #[v0]) rfl (fun t ht => ?_)).mono ?_
  · obtain rfl : t = 0 := by simpa using ht
    exact .sh hR
  · rintro e W' ⟨v, rfl, hB, g', hr⟩
    obtain rfl : v = .bool true := by cases hr; rfl
    exact ⟨_, rfl, post_law hW' rfl (by kernel_rfl) rfl (by rw [Tryz.params10]; intro t ht; obtain rfl : t = 33 := (by simpa using ht); exact types33) hB⟩
end Gx

/- Part Ad4. -/
/- The witness and the card of the law. -/
set_option linter.unusedSimpArgs false
set_option linter.unusedVariables false
namespace Gx
open Go Go.Proofs Go.RowKit Go.ChangeShapes Go.WideShapes Go.Lib
open Go.Proofs.YtgbkgdhnfjndgaaGreatDoor

noncomputable def laidW (os : Os) : World := World.laidAll Tryz.prog os Rows.loadPartsRow.laid
theorem laidW_met (os : Os) (args : Array Value) : laidMetH Tryz.prog Rows.loadPartsRow.laid ((laidW os).forCall (fun _ _ => 0) ⟨#[], args, []⟩).memory := by
  rw [MakeChecks.laidMetH_plain _ _ _ plainAll]
  exact laidMet_laidAll _ (by kernel_rfl) (by kernel_rfl)
theorem laidW_vars (os : Os) (args : Array Value) : ((laidW os).forCall (fun _ _ => 0) ⟨#[], args, []⟩).variablesRefB Tryz.prog = true := by kernel_rfl
theorem laidW_rest (os : Os) (args : Array Value) : (((laidW os).forCall (fun _ _ => 0) ⟨#[], args, []⟩).heap.toList.drop Tryz.prog.globals.size).take ((begin Tryz.prog (fun _ _ => 0) default).world.heap.size - Tryz.prog.globals.size) =
      (begin Tryz.prog (fun _ _ => 0) default).world.heap.toList.drop Tryz.prog.globals.size := by kernel_rfl
theorem reads10 (os : Os) {H : Type} (enc : TypeId × Value → H) : ∃ places, DataW.whole enc Tryz.prog ((laidW os).forCall (fun _ _ => 0) ⟨#[], #[.slice none 0 0], []⟩).memory Tryz.f10.params.toList Rows.loadPartsSpec.vars false #[Value.slice none 0 0].toList 8 = some ([.nil], [], places) :=
  ⟨[], by kernel_rfl⟩
end Gx

/- Part Ad5. -/
/- THE LAW LoadParts, FOR EVERY INPUT: the rows of any documents are the document's. -/
set_option linter.unusedSimpArgs false
set_option linter.unusedVariables false
namespace Gx
open Go Go.Proofs Go.RowKit Go.ChangeShapes Go.WideShapes Go.Lib
open Go.Proofs.YtgbkgdhnfjndgaaGreatDoor

set_option maxRecDepth 100000 in
theorem lifted10 (os : Os) (started : os.Started) (H : Type) (enc : TypeId × Value → H) (F : Stop.Interp) :
    ReturnsInHanded {} Tryz.checked os 10 .any ((OpenSpec.ofChange Rows.loadPartsSpec).preRow enc Tryz.prog Tryz.f10 Rows.loadPartsRow.domain false Rows.loadPartsRow.laid) (((OpenSpec.ofChange Rows.loadPartsSpec).at F).post enc Tryz.prog Tryz.f10 false true false false) := by
  obtain ⟨places, hx⟩ := reads10 os enc
  refine returnsInHanded_of_row (C := Tryz.checked) (s := OpenSpec.ofChange Rows.loadPartsSpec) own started (by kernel_rfl) Tryz.func10
    (witness_row_atRef (enc := enc) (C := Tryz.checked) false (laidW os) #[.slice none 0 0] (World.laidAll_os _ _ _) (laidW_vars os _) (laidW_rest os _) (by kernel_rfl)
      (OpenSpec.preRow_of_cond 8 hx (by kernel_rfl) (fun k hk => by cases hk) (by kernel_rfl) (laidW_met os _))) ?_
  intro W base args ds gs before hval hW _ _ hsz hL _ _
  exact contract10 H enc W base args ds gs before hval hW hsz hL

end Gx
