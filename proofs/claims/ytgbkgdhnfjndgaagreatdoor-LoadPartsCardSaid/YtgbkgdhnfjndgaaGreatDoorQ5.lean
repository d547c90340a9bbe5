import Derived.Test.YtgbkgdhnfjndgaaGreatDoorQ4
import Derived.Below
import Derived.KernelRfl
import Derived.OrdersIn
import Derived.RangeFuncWrites
import Derived.Test.YtgbkgdhnfjndgaaGreatDoorProg
/- A part of the proof: a calculus of values over the model, and the functions that the statement reaches, each once, in that calculus. -/
set_option linter.all false
set_option linter.unusedSimpArgs false
set_option linter.unusedVariables false

/- Part Gx23. -/
/- Loops over a function: the iterator's code, with the loop's body behind each yield. -/
namespace Gx
open Go hiding sizeOf

variable {P : Program} {G : Nat → Option Obj} {nt : Nat}

/-- The fence that bars nothing, in a round or in none. -/
def Fx (ro : Option Nat) : Fence := { Fence.wide with round := ro }

theorem opIn {ro : Option Nat} {o : Oper} {a : Act} {w : World} {K : Act → World → Prop} {Q : Exit → Act → World → Prop} (hsem : o.semAt ro a.eval = execOp a.eval o) (h : o.wp P a w K Q) : o.wpIn (Fx ro) 0 P a w K Q := by
  unfold Oper.wp at h
  unfold Oper.wpIn
  refine ⟨fun _ _ => trivial, ?_⟩
  show o.uponIn (Fx ro) 0 P a K Q ((o.semAt ro a.eval).run P w)
  rw [hsem]
  generalize (execOp a.eval o).run P w = r at h
  cases r with
  | ok nx w' =>
    cases nx with
    | value v => exact h
    | skip => exact h
    | defer d => exact h
    | enter f args => exact ⟨fun hd => (by simp [Fx, Fence.wide] at hd), show CallsIn Fence.wide _ _ _ _ _ _ from callsIn_wide.2 h⟩
    | row row args => exact ⟨fun hd => (by simp [Fx, Fence.wide] at hd), fun c cs _ => let ⟨v, w'', r, s⟩ := h c cs; ⟨v, w'', r, stepsIn_wide.2 s⟩⟩
    | _ => exact h.elim
  | halt s w' => cases s <;> exact h

theorem wpOp_in {ro : Option Nat} {ops : Array Oper} {Q : Exit → Act → World → Prop} (hQ : ¬ LetsOut Q) {i : Nat} {K : Act → World → Prop} {a : Act} {w : World} (hsem : ∀ o, ops[i]? = some o → o.semAt ro a.eval = execOp a.eval o)
    (h : wpOp P ops Q i K a w) : wpOpIn (Fx ro) 0 P ops Q i K a w := by
  unfold wpOp at h
  unfold wpOpIn
  cases ho : ops[i]? with
  | none => rw [ho] at h; exact h
  | some o =>
    rw [ho] at h
    simp only at h ⊢
    split
    · rename_i hw
      rw [if_pos hw] at h
      rcases h with h | ⟨_, h⟩
      · exact opIn (hsem o ho) h
      · exact absurd h hQ
    · rename_i hw
      rw [if_neg hw] at h
      exact ⟨fun _ _ => trivial, h⟩

def noDefer (ops : Array Oper) : Bool := ops.toList.all fun o => match o.op with
  | .defer _ => false
  | _ => true
theorem noDefer_sem {ops : Array Oper} (h : noDefer ops = true) (ro : Option Nat) (ρ : Operand → Value) (i : Nat) (o : Oper) (ho : ops[i]? = some o) : o.semAt ro ρ = execOp ρ o := by
  refine Oper.semAt_eq ro ρ o fun c hc => ?_
  have := List.all_eq_true.1 h o (by rw [Array.mem_toList_iff]; exact Array.mem_of_getElem? ho)
  rw [hc] at this
  cases this

theorem wpOps_in {ro : Option Nat} {ops : Array Oper} (hnd : ro = none ∨ noDefer ops = true) {Q : Exit → Act → World → Prop} (hQ : ¬ LetsOut Q) : ∀ (is : List Nat) (a : Act) (w : World), wpOps P ops Q is a w → wpOpsIn (Fx ro) 0 P ops Q is a w
  | [], a, w, h => h
  | i :: is, a, w, h => by
    rw [wpOps_cons] at h
    rw [wpOpsIn_cons]
    refine wpOpIn_mono (fun a w => wpOps_in hnd hQ is a w) (wpOp_in hQ (fun o ho => ?_) h)
    rcases hnd with rfl | hnd
    · rfl
    · exact noDefer_sem hnd ro _ i o ho
theorem wpAny_in {ro : Option Nat} {ops : Array Oper} (hnd : ro = none ∨ noDefer ops = true) {Q : Exit → Act → World → Prop} (hQ : ¬ LetsOut Q) : ∀ (n : Nat) (listed : Array Bool) (a : Act) (w : World), wpAny P .any ops Q n listed a w → wpAnyIn (Fx ro) 0 P .any ops Q n listed a w
  | 0, listed, a, w, h => h
  | n + 1, listed, a, w, h => by
    refine ⟨h.1, fun i hi => wpOpIn_mono (fun a w => wpAny_in hnd hQ n _ a w) (wpOp_in hQ (fun o ho => ?_) (h.2 i hi))⟩
    rcases hnd with rfl | hnd
    · rfl
    · exact noDefer_sem hnd ro _ i o ho

theorem postQ_out {F : Nat → Prop} {g0 : Gh} {w0 : World} {ds : List Deferred} {Q : Post} : ¬ LetsOut (PostQ nt F g0 w0 ds Q) := fun ⟨_, _, h⟩ => h

/-- Code without a defer statement. -/
def Code.nd : Code → Bool
  | .region _ ops _ => noDefer ops
  | .seq a b | .cond _ a b | .rangeFunc _ _ a b => Code.nd a && Code.nd b
  | .block _ c | .loop c | .scope c => Code.nd c
  | _ => true

/-- No loop. -/
def NoL : Ic → Post → Env → St → Prop := fun _ _ _ _ => False

/-- The body of a round: code without loops. -/
theorem cCodeR_snd {l : Nat} {ow : Ow} : ∀ (c : Code) (ic : Ic), cCode P ow nt c = some ic → Code.nd c = true → ∀ (Q : Post) (ρ : Env) (σ : St), ic.wp (ARet P G) NoL Q ρ σ → ∀ (F : Nat → Prop) (g0 : Gh) (w0 : World) (ds : List Deferred) (a : Act) (w : World), GL G g0 w0 →
    At nt F g0 w0 ds ρ σ a w → c.wpIn (Fx (some l)) 0 P (PostQ nt F g0 w0 ds Q) a w
  | .skip, ic, h, _, Q, ρ, σ, hw, F, g0, w0, ds, a, w, hG, hA => by
    simp only [cCode, Option.some.injEq] at h; subst h
    exact wpIn_skip ⟨ρ, σ, hA, hw⟩
  | .region id ops false, ic, h, hnd, Q, ρ, σ, hw, F, g0, w0, ds, a, w, hG, hA => by
    simp only [cCode] at h
    split at h
    · rename_i t ht
      cases h
      exact wpIn_region (wpOps_in (.inr hnd) postQ_out _ _ _ (cOps_snd ops _ t ht (Q .nx) ρ σ a w F g0 w0 ds hG hA hw _ fun a' w' h => h))
    · cases h; simp only [Ic.wp] at hw
  | .region id ops true, ic, h, hnd, Q, ρ, σ, hw, F, g0, w0, ds, a, w, hG, hA => by
    simp only [cCode] at h
    split at h
    · rename_i hc
      simp only [Bool.and_eq_true] at hc
      split at h
      · rename_i t ht
        cases h
        obtain ⟨g, own, hI, hE, hF, hn, hds⟩ := hA
        exact wpIn_region_any hc.1 (wpAny_in (.inr hnd) postQ_out _ _ _ _ (cAny_snd ops hc.2 _ _ t ht (Q .nx) ρ σ a w.drew F g0 w0 ds hG ⟨g, own, hI.drew, hE.trans Ext.drew, hF.trans fun _ _ => ⟨rfl, rfl⟩, hn, hds⟩ hw _ (fun a' w' h => h) fun c a w h => h))
      · cases h; simp only [Ic.wp] at hw
    · cases h; simp only [Ic.wp] at hw
  | .seq x y, ic, h, hnd, Q, ρ, σ, hw, F, g0, w0, ds, a, w, hG, hA => by
    simp only [Code.nd, Bool.and_eq_true] at hnd
    simp only [cCode] at h
    split at h
    · rename_i x' y' h1 h2
      cases h
      simp only [Ic.wp] at hw
      refine wpIn_seq (wpIn_mono (cCodeR_snd x x' h1 hnd.1 _ ρ σ hw F g0 w0 ds a w hG hA) fun e a' w' hq => ?_)
      cases e with
      | normal =>
        obtain ⟨ρ', σ', hA', hK⟩ := hq
        exact cCodeR_snd y y' h2 hnd.2 Q ρ' σ' hK F g0 w0 ds a' w' hG hA'
      | exit id => exact hq
      | ret => exact hq
      | goto l => exact hq
      | panic c => exact hq
      | outgrown => exact hq
    · cases h
  | .cond c x y, ic, h, hnd, Q, ρ, σ, hw, F, g0, w0, ds, a, w, hG, hA => by
    simp only [Code.nd, Bool.and_eq_true] at hnd
    simp only [cCode] at h
    split at h
    · rename_i c' x' y' h0 h1 h2
      cases h
      simp only [Ic.wp] at hw
      split at hw
      · rename_i t ht
        have hA' := hA
        obtain ⟨g, own, hI, hE, hF, hn, hds⟩ := hA
        have hr := od_plain hI hn h0 (by rw [ht]; simp)
        rw [ht] at hr
        exact wpIn_cond_split hr.bool_inv (fun e => cCodeR_snd x x' h1 hnd.1 Q ρ σ (hw.1 e) F g0 w0 ds a w hG hA') fun e => cCodeR_snd y y' h2 hnd.2 Q ρ σ (hw.2 e) F g0 w0 ds a w hG hA'
      · exact hw.elim
    · cases h; simp only [Ic.wp] at hw
  | .block id b, ic, h, hnd, Q, ρ, σ, hw, F, g0, w0, ds, a, w, hG, hA => by
    simp only [cCode, Option.map_eq_some_iff] at h
    obtain ⟨b', h1, rfl⟩ := h
    simp only [Ic.wp] at hw
    refine wpIn_block (wpIn_mono (cCodeR_snd b b' h1 hnd _ ρ σ hw F g0 w0 ds a w hG hA) fun e a' w' hq => ?_)
    cases e with
    | exit i =>
      simp only [PostQ, Post.blk, Exit.inBlock] at hq ⊢
      split
      · rename_i hi; simp only [hi, if_true] at hq; exact hq
      · rename_i hi; simp only [hi, if_false] at hq; exact hq
    | normal => exact hq
    | ret => exact hq
    | goto l => exact hq
    | panic c => exact hq
    | outgrown => exact hq
  | .loop b, ic, h, _, Q, ρ, σ, hw, F, g0, w0, ds, a, w, hG, hA => by
    simp only [cCode, Option.map_eq_some_iff] at h
    obtain ⟨b', h1, rfl⟩ := h
    simp only [Ic.wp, NoL] at hw
  | .exit id, ic, h, _, Q, ρ, σ, hw, F, g0, w0, ds, a, w, hG, hA => by
    simp only [cCode, Option.some.injEq] at h; subst h
    exact wpIn_exit ⟨ρ, σ, hA, hw⟩
  | .ret, ic, h, _, Q, ρ, σ, hw, F, g0, w0, ds, a, w, hG, hA => by
    simp only [cCode, Option.some.injEq] at h; subst h
    exact wpIn_ret ⟨ρ, σ, hA, hw⟩
  | .rangeFunc .., ic, h, _, _, _, _, hw, _, _, _, _, _, _, _, _ => by
    simp only [cCode, Option.some.injEq] at h; subst h; simp only [Ic.wp] at hw
  | .scope _, ic, h, _, _, _, _, hw, _, _, _, _, _, _, _, _ => by
    simp only [cCode, Option.some.injEq] at h; subst h; simp only [Ic.wp] at hw
  | .label _, ic, h, _, _, _, _, hw, _, _, _, _, _, _, _, _ => by
    simp only [cCode, Option.some.injEq] at h; subst h; simp only [Ic.wp] at hw
  | .goto _, ic, h, _, _, _, _, hw, _, _, _, _, _, _, _, _ => by
    simp only [cCode, Option.some.injEq] at h; subst h; simp only [Ic.wp] at hw
  | .refuse _, ic, h, _, _, _, _, hw, _, _, _, _, _, _, _, _ => by
    simp only [cCode, Option.some.injEq] at h; subst h; simp only [Ic.wp] at hw
end Gx

/- Part Gx24. -/
/- The iterator's code: each yield is a call of a kind of its own. -/
namespace Gx
open Go hiding sizeOf

variable {P : Program} {G : Nat → Option Obj} {nt : Nat}

theorem ob_mono {α : Type} {v : Option α} {k k' : α → Prop} (h : ob v k) (hk : ∀ x, k x → k' x) : ob v k' := by
  cases v with
  | none => exact h
  | some x => exact hk x h
theorem shutbs_k : ∀ (vs : List Pv) (σ : St), (σ.shutbs vs).k = σ.k
  | [], σ => rfl
  | v :: vs, σ => by
    have h : (σ.shutb v).k = σ.k := by cases v <;> rfl
    exact (shutbs_k vs (σ.shutb v)).trans h

/-- An operation that is no call: whatever the calls do. -/
theorem opKm {C C' : Crel} {o : Ao} (hno : ∀ d f asq, o ≠ .ca d f asq) {K K' : Env → St → Prop} {ρ : Env} {σ : St} (h : o.wp C K ρ σ) (hk : ∀ ρ' σ', σ'.k = σ.k → K ρ' σ' → K' ρ' σ') : o.wp C' K' ρ σ := by
  cases o with
  | mv d x => exact hk _ _ rfl h
  | tk d x => cases x <;> exact hk _ _ rfl h
  | pk d c a b =>
    rw [o_pk] at h ⊢
    unfold bw at h ⊢
    split at h
    · exact ⟨fun e => hk _ _ rfl (h.1 e), fun e => hk _ _ rfl (h.2 e)⟩
    · exact h
  | al d ty z => exact hk _ _ rfl h
  | bx d ty n x => exact ⟨h.1, hk _ _ rfl h.2⟩
  | bd d z ps => rw [o_bd] at h ⊢; exact ob_mono h fun x hx => hk _ _ rfl hx
  | bs d ty sz ps => exact ⟨h.1, hk _ _ rfl h.2⟩
  | ld d ag x => rw [o_ld] at h ⊢; exact ob_mono h fun x hx => hk _ _ rfl hx
  | lt d x =>
    rw [o_lt] at h ⊢
    unfold ltw at h ⊢
    split at h
    · exact ob_mono h fun x hx => ⟨hx.1, hk _ _ rfl hx.2⟩
    · exact h
  | st n x v =>
    cases v with
    | t s =>
      rw [o_st_t] at h ⊢
      unfold stw at h ⊢
      split at h
      · exact ⟨h.1, h.2.1, h.2.2.1, h.2.2.2.1, hk _ _ rfl h.2.2.2.2⟩
      · exact h
    | c u =>
      rw [o_st_c] at h ⊢
      unfold stw at h ⊢
      split at h
      · exact ⟨h.1, h.2.1, h.2.2.1, h.2.2.2.1, hk _ _ rfl h.2.2.2.2⟩
      · exact h
  | nc d x => rw [o_nc] at h ⊢; exact ob_mono h fun x hx => hk _ _ rfl hx
  | bi d op x y => rw [o_bi] at h ⊢; exact ob_mono h fun x hx => hk _ _ rfl hx
  | bq d i neg x y => rw [o_bq] at h ⊢; exact ob_mono h fun x hx => hk _ _ rfl hx
  | eq d neg ks x y => rw [o_eq] at h ⊢; exact ob_mono h fun x hx => hk _ _ rfl hx
  | no d op x => rw [o_no] at h ⊢; exact ob_mono h fun x hx => hk _ _ rfl hx
  | cv d k x => rw [o_cv] at h ⊢; exact ob_mono h fun x hx => hk _ _ rfl hx
  | mf d f a b => exact hk _ _ rfl h
  | ms d ty z bytes x y =>
    rw [o_ms] at h ⊢
    unfold msw at h ⊢
    split at h
    · exact ⟨h.1, h.2.1, h.2.2.1, hk _ _ rfl h.2.2.2⟩
    · exact h
  | sc d sz x lo hi mx =>
    cases mx with
    | none =>
      rw [o_sc] at h ⊢
      unfold scw at h ⊢
      split at h
      · exact ob_mono h fun x hx => hk _ _ rfl hx
      · exact ⟨h.1, ob_mono h.2 fun x hx => hk _ _ rfl hx⟩
      · exact ob_mono h fun x hx => hk _ _ rfl hx
      · exact h
    | some m =>
      exfalso
      simp only [Ao.wp, Option.isNone_some] at h
      split at h <;> simp at h
  | fa d off x => rw [o_fa] at h ⊢; exact ob_mono h fun x hx => hk _ _ rfl hx
  | fi d off ag x => rw [o_fi] at h ⊢; exact ob_mono h fun x hx => hk _ _ rfl hx
  | ia d sz x i =>
    rw [o_ia] at h ⊢
    unfold iaw at h ⊢
    split at h
    · exact ob_mono h fun x hx => ⟨hx.1, hx.2.1, hk _ _ rfl hx.2.2⟩
    · exact ⟨h.1, h.2.1, h.2.2.1, hk _ _ rfl h.2.2.2⟩
    · exact h
  | ix d x i => rw [o_ix] at h ⊢; exact ob_mono h fun x hx => hk _ _ rfl hx
  | ex d x i => rw [o_ex] at h ⊢; exact ob_mono h fun x hx => hk _ _ rfl hx
  | ca d f asq => exact absurd rfl (hno d f asq)
  | ap d ty sz a x =>
    cases a with
    | t n =>
      rw [o_ap] at h ⊢
      unfold apw at h ⊢
      split at h
      · exact ⟨h.1, h.2.1, h.2.2.1, h.2.2.2.1, hk _ _ rfl h.2.2.2.2⟩
      · exact ⟨h.1, h.2.1, h.2.2.1, h.2.2.2.1, hk _ _ rfl h.2.2.2.2⟩
      · exact h
    | c v =>
      have hv : v = .sl true [] := by
        cases v with
        | sl own xs =>
          cases own with
          | false => exact h.elim
          | true => cases xs with
            | nil => rfl
            | cons y ys => exact h.elim
        | _ => exact h.elim
      subst hv
      rw [o_ap0] at h ⊢
      unfold ap0 at h ⊢
      split at h
      · exact ⟨h.1, h.2.1, hk _ _ rfl h.2.2⟩
      · exact ⟨h.1, h.2.1, hk _ _ rfl h.2.2⟩
      · exact h
  | ln d b x =>
    rw [o_ln] at h ⊢
    unfold lnw at h ⊢
    split at h
    · exact ⟨h.1, fun e => hk _ _ rfl (h.2 e)⟩
    · exact ⟨h.1, fun e => hk _ _ rfl (h.2 e)⟩
    · exact ⟨h.1, fun e => hk _ _ rfl (h.2 e)⟩
    · exact h
  | mm d mx x y => rw [o_mm] at h ⊢; exact ob_mono h fun x hx => hk _ _ rfl hx
  | bad d => exact h

theorem gwpKm {C C' : Crel} {g : Option (Nat × Bool)} {o : Ao} {K K' : Env → St → Prop} {ρ : Env} {σ : St} (ho : ∀ K K' : Env → St → Prop, o.wp C K ρ σ → (∀ ρ' σ', σ'.k = σ.k → K ρ' σ' → K' ρ' σ') → o.wp C' K' ρ σ)
    (h : gwp C g o K ρ σ) (hk : ∀ ρ' σ', σ'.k = σ.k → K ρ' σ' → K' ρ' σ') : gwp C' g o K' ρ σ := by
  cases g with
  | none => exact ho _ _ h hk
  | some tb =>
    obtain ⟨t, b⟩ := tb
    simp only [gwp] at h ⊢
    split at h
    · split at h
      · rename_i e; rw [if_pos e]; exact ho _ _ h hk
      · rename_i e; rw [if_neg e]; exact hk _ _ rfl h
    · exact hk _ _ rfl h
    · exact h

/-- Operations without a call. -/
def It.noCa : It → Bool
  | .nil => true
  | .one _ o t => (match o with
    | .ca .. => false
    | _ => true) && It.noCa t
  | .any ts => noCas ts
where noCas : List It → Bool
  | [] => true
  | t :: ts => It.noCa t && noCas ts

mutual
theorem itKm {C C' : Crel} : ∀ (t : It), t.noCa = true → ∀ {K K' : Env → St → Prop} {ρ : Env} {σ : St}, t.wp C K ρ σ → (∀ ρ' σ', σ'.k = σ.k → K ρ' σ' → K' ρ' σ') → t.wp C' K' ρ σ
  | .nil, _, K, K', ρ, σ, h, hk => by rw [it_nil] at h ⊢; exact hk _ _ rfl h
  | .one g o t, hn, K, K', ρ, σ, h, hk => by
    simp only [It.noCa, Bool.and_eq_true] at hn
    rw [It.wp] at h ⊢
    refine gwpKm (fun K K' h hk => opKm (fun d f asq e => ?_) h hk) h fun ρ' σ' e h' => itKm t hn.2 h' fun ρ'' σ'' e' h'' => hk _ _ (e'.trans e) h''
    subst e
    cases hn.1
  | .any ts, hn, K, K', ρ, σ, h, hk => by
    simp only [It.noCa] at hn
    rw [it_any] at h ⊢
    exact itsKm ts hn h hk
theorem itsKm {C C' : Crel} : ∀ (ts : List It), It.noCa.noCas ts = true → ∀ {K K' : Env → St → Prop} {ρ : Env} {σ : St}, wpAll C ts K ρ σ → (∀ ρ' σ', σ'.k = σ.k → K ρ' σ' → K' ρ' σ') → wpAll C' ts K' ρ σ
  | [], _, K, K', ρ, σ, h, hk => by rw [it_any0]; trivial
  | t :: ts, hn, K, K', ρ, σ, h, hk => by
    simp only [It.noCa.noCas, Bool.and_eq_true] at hn
    rw [it_any1] at h ⊢
    exact ⟨itKm t hn.1 h.1 hk, itsKm ts hn.2 h.2 hk⟩
end

/-- The calls of an iterator's code: a yield, or any other. -/
def CY (P : Program) (G : Nat → Option Obj) (l : Nat) (Y : List Pv → St → Pv → St → Prop) : Crel := fun f args σ r σ' =>
  (ynum ≤ f ∧ f = ynum + l ∧ Y args σ r σ') ∨ (f < ynum ∧ ARet P G f args σ r σ' ∧ σ'.k = σ.k)
theorem cy_of {l : Nat} {Y : List Pv → St → Pv → St → Prop} {f : FuncId} {args : List Pv} {σ σ' : St} {r : Pv} (h : ARet P G f args σ r σ') (hk : σ'.k = σ.k) : CY P G l Y f args σ r σ' := .inr ⟨h.1.1, h, hk⟩
theorem cy_yield {l : Nat} {Y : List Pv → St → Pv → St → Prop} {args : List Pv} {σ σ' : St} {r : Pv} (h : Y args σ r σ') : CY P G l Y (ynum + l) args σ r σ' := .inl ⟨Nat.le_add_right _ _, rfl, h⟩

/-- What a yield does, whatever the world. -/
def YOk (P : Program) (G : Nat → Option Obj) (l : Nat) (rec : Nat → Obj) (F : Nat → Prop) (Y : List Pv → St → Pv → St → Prop) (H : Gh → World → Prop) : Prop :=
  ∀ args σ r σ', Y args σ r σ' → ∀ (g : Gh) (w : World) (vs : Array Value) (own : Pl → Option Nat) (F' : Nat → Prop), GL G g w → H g w → vs.size = args.length → Inv g w σ (fun t => args.getD t .un) vs own F' → (∀ x, F x ∨ x = l → F' x) → g.z l = some 0 →
    w.heap[l]? = some (rec σ.k) → YieldAt Fence.wide 0 P l vs w fun e w' => ∃ v, e = .returned v ∧ ∃ g' own', Inv g' w' σ' (fun _ => r) #[v] own' F' ∧ Ext g w g' w' ∧ (∀ x, F' x → x ≠ l → w'.heap[x]? = w.heap[x]? ∧ g'.z x = g.z x) ∧ g'.z l = some 0 ∧ w'.heap[l]? = some (rec σ'.k)

/-- The iterator's frame. -/
def AtY (nt l : Nat) (rec : Nat → Obj) (F : Nat → Prop) (g0 : Gh) (w0 : World) (ds : List Deferred) (ρ : Env) (σ : St) (a : Act) (w : World) : Prop :=
  ∃ g own, Inv g w σ ρ a.tmps own (fun x => F x ∨ x = l) ∧ Ext g0 w0 g w ∧ Fr F g0 w0 g w ∧ a.tmps.size = nt ∧ a.defers = ds ∧ g.z l = some 0 ∧ w.heap[l]? = some (rec σ.k)
def AtYK (nt l : Nat) (rec : Nat → Obj) (F : Nat → Prop) (g0 : Gh) (w0 : World) (ds : List Deferred) (K : Env → St → Prop) (a : Act) (w : World) : Prop := ∃ ρ σ, AtY nt l rec F g0 w0 ds ρ σ a w ∧ K ρ σ

theorem AtY.of_at {l : Nat} {rec : Nat → Obj} {F : Nat → Prop} {g0 g : Gh} {w0 w : World} {ds : List Deferred} {σ0 : St} {K : Env → St → Prop} {a' : Act} {w' : World} (hFl : ¬ F l) (hz : g.z l = some 0) (hl : w.heap[l]? = some (rec σ0.k))
    (hE : Ext g0 w0 g w) (hF : Fr F g0 w0 g w) (h : AtK nt (fun x => F x ∨ x = l) g w ds (fun ρ σ => K ρ σ ∧ σ.k = σ0.k) a' w') : AtYK nt l rec F g0 w0 ds K a' w' := by
  obtain ⟨ρ', σ', ⟨g', own', hI, hE', hF', hn, hds⟩, hK, hk⟩ := h
  refine ⟨ρ', σ', ⟨g', own', hI, hE.trans hE', hF.trans fun x hx => hF' x (.inl hx), hn, hds, ?_, ?_⟩, hK⟩
  · rw [(hF' l (.inr rfl)).2]; exact hz
  · rw [(hF' l (.inr rfl)).1, hl, hk]
end Gx

/- Part Gx25. -/
namespace Gx
open Go hiding sizeOf
variable {P : Program} {G : Nat → Option Obj} {nt : Nat}

set_option maxHeartbeats 4000000 in
theorem ca_inv {ow : Ow} {ops : Array Oper} {o : Oper} {d : Option Nat} {g : Od} {bs : List (Bool × Od)} (h : cOp P ow nt ops o = some (.ca d g bs)) :
    ∃ c f, o.op = .call c ∧ c.callee = .value f ∧ (∀ d, o.dst = some d → d < nt) ∧ odOf nt f = some g ∧ bs.length = c.args.toList.length ∧
      (∀ (i : Nat) b y x, bs[i]? = some (b, y) → c.args.toList[i]? = some x → odOf nt x = some y) ∧ (bs.filter (·.1)).length ≤ 1 ∧ d = o.dst := by
  have h0 : cOp0 P ow nt ops o = some (.ca d g bs) := by
    unfold cOp at h
    split at h
    · rename_i a ha; cases h; exact ha
    · cases h
  clear h
  unfold cOp0 at h0
  simp only [Option.bind_eq_bind, Option.pure_def] at h0
  cases hop : o.op
  case call c =>
    rw [hop] at h0
    simp only at h0
    cases hcal : c.callee with
    | value f =>
      rw [hcal] at h0
      simp only at h0
      obtain ⟨g', hg, h0⟩ := bind_some h0
      obtain ⟨asq, has, h0⟩ := bind_some h0
      obtain ⟨b1, b2⟩ := callArgs_ok (ow := ow) (f := f) has
      generalize callArgs ow f asq = bs' at h0 b1 b2
      split at h0
      · rename_i hc
        cases hdd : o.dst with
        | some d' =>
          rw [hdd] at h0
          simp only at h0
          split at h0
          · rename_i hlt
            cases h0
            exact ⟨c, f, rfl, hcal, (fun d' hd' => by cases hd'; exact hlt), hg, b1, b2, hc, rfl⟩
          · cases h0
        | none =>
          rw [hdd] at h0
          cases h0
          exact ⟨c, f, rfl, hcal, (fun d' hd' => by cases hd'), hg, b1, b2, hc, rfl⟩
      · cases h0
    | invoke r m => rw [hcal] at h0; simp at h0
    | builtin b =>
      exfalso
      rw [hcal] at h0
      cases b
      all_goals (simp only at h0)
      all_goals (repeat' (first | (with_reducible cases h0; done) | (split at h0) | (replace h0 := bind_some h0; obtain ⟨_, _, h0⟩ := h0)))
  all_goals (exfalso; rw [hop] at h0; simp only at h0)
  all_goals (repeat' (first | (with_reducible cases h0; done) | (split at h0) | (replace h0 := bind_some h0; obtain ⟨_, _, h0⟩ := h0)))
/-- A yield, asq the iterator's machine does it. -/
theorem yield_op {l : Nat} {rec : Nat → Obj} {F : Nat → Prop} {Y : List Pv → St → Pv → St → Prop} {H : Gh → World → Prop} (hY : YOk P G l rec F Y H) (hH : ∀ {g w g' w'}, H g w → Ext g w g' w' → H g' w')
    {o : Oper} {c : Call} {f : Operand} {f' : Od} {asq : List (Bool × Od)} (ho : o.op = .call c) (hb : c.callee = .value f) (hd : ∀ d, o.dst = some d → d < nt) (hf : odOf nt f = some f') (hl : asq.length = c.args.toList.length)
    (has : ∀ (i : Nat) b y x, asq[i]? = some (b, y) → c.args.toList[i]? = some x → odOf nt x = some y) (h1c : (asq.filter (·.1)).length ≤ 1) {K : Env → St → Prop} {ρ : Env} {σ : St} {a : Act} {w : World} {g : Gh} {own : Pl → Option Nat} (hn : a.tmps.size = nt)
    (hG : GL G g w) (hHg : H g w) (h : Inv g w σ ρ a.tmps own (fun x => F x ∨ x = l)) (hz : g.z l = some 0) (hr : w.heap[l]? = some (rec σ.k)) {k : FuncId} {fs cs : List Pv} (hfe : f'.ev ρ = .clo k fs cs) (hk : ynum ≤ k)
    (hw : (Ao.ca o.dst f' asq).wp (CY P G l Y) K ρ σ) (Q : Exit → Act → World → Prop) :
    o.wpIn (Fx none) 0 P a w (fun a' w' => ∃ ρ' σ' g' own', Inv g' w' σ' ρ' a'.tmps own' (fun x => F x ∨ x = l) ∧ Ext g w g' w' ∧ (∀ x, F x → x ≠ l → w'.heap[x]? = w.heap[x]? ∧ g'.z x = g.z x) ∧ K ρ' σ' ∧ a'.tmps.size = nt ∧ a'.defers = a.defers ∧ g'.z l = some 0 ∧ w'.heap[l]? = some (rec σ'.k)) Q := by
  simp only [Ao.wp, hfe] at hw
  obtain ⟨hok, r, σ', hC, hK⟩ := hw
  rcases hC with ⟨_, rfl, hYr⟩ | ⟨hlt, _⟩
  case inr => exact absurd hlt (Nat.not_lt.2 hk)
  have hrf := od_plain h hn hf (by rw [hfe]; simp)
  rw [hfe] at hrf
  have hv : a.eval f = .func (.yield l) #[] #[] ∧ fs = [] ∧ cs = [] := by
    generalize a.eval f = v at hrf
    generalize hq : ynum + l = q at hrf
    cases hrf with
    | yld l' =>
      have : l' = l := by omega
      subst this
      exact ⟨rfl, rfl, rfl⟩
    | clo _ _ _ us vs hfl hcl r1 r2 hlt => exact absurd (hq ▸ hlt) (Nat.not_lt.2 (Nat.le_add_right _ _))
  obtain ⟨hv, rfl, rfl⟩ := hv
  obtain ⟨g1, ownC, FC, hE1, hF1, hvsz, hInvC, hFC, hback⟩ := ca_gen (nt := nt) (w := w) (us := #[]) (vs := #[]) o c hd hl has h1c hn h (fs := []) (cs := []) rfl rfl (fun i x v hx _ => by simp at hx) (fun i x v hx _ => by simp at hx) hok r σ' (fun x => x = l) (fun x hx => .inr hx)
  obtain ⟨fn, tmps, assign, body, hy, hR⟩ := hY _ _ _ _ hYr g1 w _ ownC FC (hG.mono hE1) (hH hHg hE1) hvsz hInvC hFC (by rw [(hF1 l (.inr rfl)).2]; exact hz) (by rw [shutbs_k]; exact hr)
  unfold Oper.wpIn
  refine ⟨fun _ _ => trivial, ?_⟩
  show o.uponIn (Fx none) 0 P a _ Q ((execOp a.eval o).run P w)
  have hrun : (execOp a.eval o).run P w = .ok (.round l fn tmps assign body) w := by
    have hy' : (Instr.yield l (c.args.map a.eval)).run P w = .ok (.round l fn tmps assign body) w := by simpa using hy
    simp [execOp, ho, resolve, hb, hv, Deferred.ofValue, invoke, hy']
  rw [hrun]
  refine ⟨fun hd => (by simp [Fx, Fence.wide] at hd), ?_⟩
  refine RoundIn.mono (show RoundIn (Fx none) (0 - 1) P l fn tmps assign body w _ from hR) fun e w' hpost => ?_
  obtain ⟨v, rfl, g2, own2, hI2, hE2, hF2, hz2, hr2⟩ := hpost
  obtain ⟨ρ', g', own', q1, q2, q3, q4, q5, q6, rfl⟩ := hback v w' g2 own2 hI2 hE2 hF2 K hK
  exact ⟨ρ', σ', g', own', q1, q2, fun x hx hne => q3 x (.inl hx) hne, q4, q5, q6, hz2, hr2⟩
end Gx

/- Part Gx26. -/
/- The iterator's code, sound. -/
namespace Gx
open Go hiding sizeOf
variable {P : Program} {G : Nat → Option Obj} {nt : Nat}

/-- A call that is no yield. -/
theorem opY {l : Nat} {Y : List Pv → St → Pv → St → Prop} {o : Ao} {K : Env → St → Prop} {ρ : Env} {σ : St} (hno : ¬ ∃ d f asq k x y, o = .ca d f asq ∧ f.ev ρ = .clo k x y ∧ ynum ≤ k) (h : o.wp (CY P G l Y) K ρ σ) :
    o.wp (ARet P G) (fun ρ' σ' => K ρ' σ' ∧ σ'.k = σ.k) ρ σ := by
  by_cases hc : ∃ d f asq, o = .ca d f asq
  · obtain ⟨d, f, asq, rfl⟩ := hc
    simp only [Ao.wp] at h ⊢
    split at h
    · rename_i k x y he
      obtain ⟨h1, r, σ', hC, hK⟩ := h
      rcases hC with ⟨hk, _⟩ | ⟨_, hA, hk⟩
      · exact absurd ⟨d, f, asq, k, x, y, rfl, he, hk⟩ hno
      · exact ⟨h1, r, σ', hA, hK, by rw [hk, shutbs_k]⟩
    · exact h
  · exact opKm (fun d f asq e => hc ⟨d, f, asq, e⟩) h fun ρ' σ' e hK => ⟨hK, e⟩

section
variable {l : Nat} {rec : Nat → Obj} {F : Nat → Prop} {Y : List Pv → St → Pv → St → Prop} {H : Gh → World → Prop} (hY : YOk P G l rec F Y H) (hH : ∀ {g w g' w'}, H g w → Ext g w g' w' → H g' w') (hFl : ¬ F l)
include hY hH hFl

theorem gopY {ow : Ow} {ops : Array Oper} {i : Nat} {o : Oper} (hi : ops[i]? = some o) {gd : Option (Nat × Bool)} (hg : gOf ops nt o = some gd) {ao : Ao} (ha : cOp P ow nt ops o = some ao) (hd : ao.dst = o.dst) {K : Env → St → Prop} {ρ : Env} {σ : St} {a : Act}
    {w w0 : World} {g0 : Gh} {ds : List Deferred} (hG : GL G g0 w0) (hH0 : H g0 w0) (hA : AtY nt l rec F g0 w0 ds ρ σ a w) (hw : gwp (CY P G l Y) gd ao K ρ σ) (Q : Exit → Act → World → Prop) (hQ : ¬ LetsOut Q) :
    wpOpIn (Fx none) 0 P ops Q i (AtYK nt l rec F g0 w0 ds K) a w := by
  obtain ⟨g, own, hI, hE, hF, hn, hds, hz, hl⟩ := hA
  have hgw := guard_wanted hg hI hn
  have skip : Region.wanted o (yielded ops a.tmps) = false → K (optPut ρ ao.dst .un) σ → wpOpIn (Fx none) 0 P ops Q i (AtYK nt l rec F g0 w0 ds K) a w := by
    intro hwn hK
    unfold wpOpIn
    simp only [hi, hwn, Bool.false_eq_true, if_false]
    refine ⟨fun _ _ => trivial, ?_⟩
    rw [hd] at hK
    cases hdd : o.dst with
    | none =>
      rw [hdd] at hK
      exact ⟨_, _, ⟨g, own, hI, hE, hF, hn, hds, hz, hl⟩, hK⟩
    | some d =>
      rw [hdd] at hK
      exact ⟨_, _, ⟨g, _, hI.put d .un, hE, hF, by simp [Act.put, hn], hds, hz, hl⟩, hK⟩
  have run : Region.wanted o (yielded ops a.tmps) = true → ao.wp (CY P G l Y) K ρ σ → wpOpIn (Fx none) 0 P ops Q i (AtYK nt l rec F g0 w0 ds K) a w := by
    intro hwn hK
    unfold wpOpIn
    simp only [hi, hwn, if_true]
    by_cases hy : ∃ d f asq k x y, ao = .ca d f asq ∧ f.ev ρ = .clo k x y ∧ ynum ≤ k
    · obtain ⟨d, f', asq, k, x, y, rfl, he, hk⟩ := hy
      obtain ⟨c, f, e1, e2, e3, e4, e5, e6, e7, rfl⟩ := ca_inv ha
      refine Oper.wpIn_mono (fun a' w' hp => ?_) (yield_op hY hH e1 e2 e3 e4 e5 e6 e7 hn (hG.mono hE) (hH hH0 hE) hI hz hl he hk hK Q)
      obtain ⟨ρ', σ', g', own', q1, q2, q3, q4, q5, q6, q7, q8⟩ := hp
      exact ⟨ρ', σ', ⟨g', own', q1, hE.trans q2, hF.trans fun x hx => q3 x hx (fun e => hFl (e ▸ hx)), q5, q6.trans hds, q7, q8⟩, q4⟩
    · have h1 := (cOp_snd (G := G) ow ops o ao ha).2 _ ρ σ a hn g w own _ (hG.mono hE) hI (opY hy hK) Q
      refine Oper.wpIn_mono (fun a' w' hL => ?_) (opIn (ro := none) rfl h1)
      obtain ⟨ρ', σ', g', own', hI', hE', hF', ⟨hK', hk'⟩, hn', hds'⟩ := hL
      refine ⟨ρ', σ', ⟨g', own', hI', hE.trans hE', hF.trans fun x hx => hF' x (.inl hx), hn', hds'.trans hds, ?_, ?_⟩, hK'⟩
      · rw [(hF' l (.inr rfl)).2]; exact hz
      · rw [(hF' l (.inr rfl)).1, hl, hk']
  cases gd with
  | none => exact run hgw hw
  | some p =>
    obtain ⟨d, b⟩ := p
    simp only [gwp] at hw
    split at hw
    · rename_i c hc
      have hwn := hgw.1 c hc
      split at hw
      · rename_i hcb
        exact run (by rw [hwn, hcb]; simp) hw
      · rename_i hcb
        exact skip (by rw [hwn]; simpa using hcb) hw
    · rename_i hc
      exact skip (hgw.2 hc) hw
    · exact hw.elim

theorem cOpsY {ow : Ow} (ops : Array Oper) : ∀ (is : List Nat) (t : It), cOps P ow nt ops is = some t → ∀ (K : Env → St → Prop) (ρ : Env) (σ : St) (a : Act) (w : World) (g0 : Gh) (w0 : World) (ds : List Deferred), GL G g0 w0 → H g0 w0 →
    AtY nt l rec F g0 w0 ds ρ σ a w → t.wp (CY P G l Y) K ρ σ → ∀ Q : Exit → Act → World → Prop, ¬ LetsOut Q → (∀ a' w', AtYK nt l rec F g0 w0 ds K a' w' → Q .normal a' w') → wpOpsIn (Fx none) 0 P ops Q is a w
  | [], t, h, K, ρ, σ, a, w, g0, w0, ds, hG, hH0, hA, hw, Q, hQo, hQ => by
    simp only [cOps, Option.some.injEq] at h
    subst h
    exact hQ a w ⟨ρ, σ, hA, by rwa [it_nil] at hw⟩
  | i :: is, t, h, K, ρ, σ, a, w, g0, w0, ds, hG, hH0, hA, hw, Q, hQo, hQ => by
    simp only [cOps] at h
    cases hi : ops[i]? with
    | none => rw [hi] at h; cases h
    | some o =>
      rw [hi] at h
      simp only at h
      split at h
      · rename_i gd ao t' h1 h2 h3
        split at h
        · rename_i hd
          cases h
          rw [wpOpsIn_cons]
          refine wpOpIn_mono (fun a' w' hL => ?_) (gopY hY hH hFl (ow := ow) hi h1 h2 hd hG hH0 hA (by simpa only [It.wp] using hw) Q hQo)
          obtain ⟨ρ', σ', hA', hK'⟩ := hL
          exact cOpsY ops is t' h3 K ρ' σ' a' w' g0 w0 ds hG hH0 hA' hK' Q hQo hQ
        · cases h
      · cases h
end

def PostY (nt l : Nat) (rec : Nat → Obj) (F : Nat → Prop) (g0 : Gh) (w0 : World) (ds : List Deferred) (Q : Post) : Exit → Act → World → Prop
  | .normal, a, w => AtYK nt l rec F g0 w0 ds (Q .nx) a w
  | .exit id, a, w => AtYK nt l rec F g0 w0 ds (Q (.ex id)) a w
  | .ret, a, w => AtYK nt l rec F g0 w0 ds (Q .rt) a w
  | _, _, _ => False
theorem postY_out {l : Nat} {rec : Nat → Obj} {F : Nat → Prop} {g0 : Gh} {w0 : World} {ds : List Deferred} {Q : Post} : ¬ LetsOut (PostY nt l rec F g0 w0 ds Q) := fun ⟨_, _, h⟩ => h

/-- What a loop of the iterator does. -/
def LoopsY (P : Program) (G : Nat → Option Obj) (nt l : Nat) (rec : Nat → Obj) (F : Nat → Prop) (H : Gh → World → Prop) (b : Ic) (Q : Post) (ρ : Env) (σ : St) : Prop :=
  ∀ c, cCode P [] nt c = some b → ∀ (g0 : Gh) (w0 : World) (ds : List Deferred) (a : Act) (w : World), GL G g0 w0 → H g0 w0 → AtY nt l rec F g0 w0 ds ρ σ a w → Code.okY P nt c = true → (Code.loop c).wpIn (Fx none) 0 P (PostY nt l rec F g0 w0 ds Q) a w
where
  /-- Regions that draw their order have no call. -/
  Code.okY (P : Program) (nt : Nat) : Code → Bool
  | .region _ ops true => match cAny P [] nt ops ops.size (Array.replicate ops.size false) with
    | some t => t.noCa
    | none => true
  | .seq a b | .cond _ a b => Code.okY P nt a && Code.okY P nt b
  | .block _ c | .loop c => Code.okY P nt c
  | _ => true
abbrev okY := LoopsY.Code.okY

section
variable {l : Nat} {rec : Nat → Obj} {F : Nat → Prop} {Y : List Pv → St → Pv → St → Prop} {H : Gh → World → Prop} (hY : YOk P G l rec F Y H) (hH : ∀ {g w g' w'}, H g w → Ext g w g' w' → H g' w') (hFl : ¬ F l)
include hY hH hFl

theorem cCodeY : ∀ (c : Code) (ic : Ic), cCode P [] nt c = some ic → okY P nt c = true → ∀ (Q : Post) (ρ : Env) (σ : St), ic.wp (CY P G l Y) (LoopsY P G nt l rec F H) Q ρ σ → ∀ (g0 : Gh) (w0 : World) (ds : List Deferred) (a : Act) (w : World), GL G g0 w0 → H g0 w0 →
    AtY nt l rec F g0 w0 ds ρ σ a w → c.wpIn (Fx none) 0 P (PostY nt l rec F g0 w0 ds Q) a w
  | .skip, ic, h, _, Q, ρ, σ, hw, g0, w0, ds, a, w, hG, hH0, hA => by
    simp only [cCode, Option.some.injEq] at h; subst h
    exact wpIn_skip ⟨ρ, σ, hA, hw⟩
  | .region id ops false, ic, h, _, Q, ρ, σ, hw, g0, w0, ds, a, w, hG, hH0, hA => by
    simp only [cCode] at h
    split at h
    · rename_i t ht
      cases h
      exact wpIn_region (cOpsY hY hH hFl ops _ t ht (Q .nx) ρ σ a w g0 w0 ds hG hH0 hA hw _ postY_out fun a' w' h => h)
    · cases h; simp only [Ic.wp] at hw
  | .region id ops true, ic, h, hok, Q, ρ, σ, hw, g0, w0, ds, a, w, hG, hH0, hA => by
    simp only [cCode] at h
    split at h
    · rename_i hc
      simp only [Bool.and_eq_true] at hc
      split at h
      · rename_i t ht
        cases h
        have hno : t.noCa = true := by
          have h1 := hok
          simp only [okY, LoopsY.Code.okY, ht] at h1
          exact h1
        obtain ⟨g, own, hI, hE, hF, hn, hds, hz, hl⟩ := hA
        refine wpIn_region_any hc.1 (wpAny_in (.inl rfl) postY_out _ _ _ _ (cAny_snd (G := G) ops hc.2 _ _ t ht (fun ρ' σ' => Q .nx ρ' σ' ∧ σ'.k = σ.k) ρ σ a w.drew (fun x => F x ∨ x = l) g w.drew ds ((hG.mono hE).mono Ext.drew)
          ⟨g, own, hI.drew, Ext.refl _ _, Fr.refl _ _ _, hn, hds⟩ (itKm t hno (by rwa [c_reg] at hw) fun ρ' σ' e hK => ⟨hK, e⟩) _ (fun a' w' h => ?_) fun c a w h => h))
        exact AtY.of_at (w := w.drew) (g := g) hFl hz hl (hE.trans Ext.drew) (hF.trans fun _ _ => ⟨rfl, rfl⟩) h
      · cases h; simp only [Ic.wp] at hw
    · cases h; simp only [Ic.wp] at hw
  | .seq x y, ic, h, hok, Q, ρ, σ, hw, g0, w0, ds, a, w, hG, hH0, hA => by
    simp only [okY, LoopsY.Code.okY, Bool.and_eq_true] at hok
    simp only [cCode] at h
    split at h
    · rename_i x' y' h1 h2
      cases h
      simp only [Ic.wp] at hw
      refine wpIn_seq (wpIn_mono (cCodeY x x' h1 hok.1 _ ρ σ hw g0 w0 ds a w hG hH0 hA) fun e a' w' hq => ?_)
      cases e with
      | normal =>
        obtain ⟨ρ', σ', hA', hK⟩ := hq
        exact cCodeY y y' h2 hok.2 Q ρ' σ' hK g0 w0 ds a' w' hG hH0 hA'
      | exit id => exact hq
      | ret => exact hq
      | goto l => exact hq
      | panic c => exact hq
      | outgrown => exact hq
    · cases h
  | .cond c x y, ic, h, hok, Q, ρ, σ, hw, g0, w0, ds, a, w, hG, hH0, hA => by
    simp only [okY, LoopsY.Code.okY, Bool.and_eq_true] at hok
    simp only [cCode] at h
    split at h
    · rename_i c' x' y' h0 h1 h2
      cases h
      simp only [Ic.wp] at hw
      split at hw
      · rename_i t ht
        have hA' := hA
        obtain ⟨g, own, hI, hE, hF, hn, hds, _⟩ := hA
        have hr := od_plain hI hn h0 (by rw [ht]; simp)
        rw [ht] at hr
        exact wpIn_cond_split hr.bool_inv (fun e => cCodeY x x' h1 hok.1 Q ρ σ (hw.1 e) g0 w0 ds a w hG hH0 hA') fun e => cCodeY y y' h2 hok.2 Q ρ σ (hw.2 e) g0 w0 ds a w hG hH0 hA'
      · exact hw.elim
    · cases h; simp only [Ic.wp] at hw
  | .block id b, ic, h, hok, Q, ρ, σ, hw, g0, w0, ds, a, w, hG, hH0, hA => by
    simp only [cCode, Option.map_eq_some_iff] at h
    obtain ⟨b', h1, rfl⟩ := h
    simp only [Ic.wp] at hw
    refine wpIn_block (wpIn_mono (cCodeY b b' h1 hok _ ρ σ hw g0 w0 ds a w hG hH0 hA) fun e a' w' hq => ?_)
    cases e with
    | exit i =>
      simp only [PostY, Post.blk, Exit.inBlock] at hq ⊢
      split
      · rename_i hi; simp only [hi, if_true] at hq; exact hq
      · rename_i hi; simp only [hi, if_false] at hq; exact hq
    | normal => exact hq
    | ret => exact hq
    | goto l => exact hq
    | panic c => exact hq
    | outgrown => exact hq
  | .loop b, ic, h, hok, Q, ρ, σ, hw, g0, w0, ds, a, w, hG, hH0, hA => by
    simp only [cCode, Option.map_eq_some_iff] at h
    obtain ⟨b', h1, rfl⟩ := h
    exact hw b h1 g0 w0 ds a w hG hH0 hA hok
  | .exit id, ic, h, _, Q, ρ, σ, hw, g0, w0, ds, a, w, hG, hH0, hA => by
    simp only [cCode, Option.some.injEq] at h; subst h
    exact wpIn_exit ⟨ρ, σ, hA, hw⟩
  | .ret, ic, h, _, Q, ρ, σ, hw, g0, w0, ds, a, w, hG, hH0, hA => by
    simp only [cCode, Option.some.injEq] at h; subst h
    exact wpIn_ret ⟨ρ, σ, hA, hw⟩
  | .rangeFunc .., ic, h, _, _, _, _, hw, _, _, _, _, _, _, _, _ => by
    simp only [cCode, Option.some.injEq] at h; subst h; simp only [Ic.wp] at hw
  | .scope _, ic, h, _, _, _, _, hw, _, _, _, _, _, _, _, _ => by
    simp only [cCode, Option.some.injEq] at h; subst h; simp only [Ic.wp] at hw
  | .label _, ic, h, _, _, _, _, hw, _, _, _, _, _, _, _, _ => by
    simp only [cCode, Option.some.injEq] at h; subst h; simp only [Ic.wp] at hw
  | .goto _, ic, h, _, _, _, _, hw, _, _, _, _, _, _, _, _ => by
    simp only [cCode, Option.some.injEq] at h; subst h; simp only [Ic.wp] at hw
  | .refuse _, ic, h, _, _, _, _, hw, _, _, _, _, _, _, _, _ => by
    simp only [cCode, Option.some.injEq] at h; subst h; simp only [Ic.wp] at hw
end
end Gx

/- Part Gx27. -/
/- A loop over a function: the law. -/
namespace Gx
open Go hiding sizeOf
variable {P : Program} {G : Nat → Option Obj} {nt : Nat}

/-- What a function gives, out of the state at its end. -/
theorem fin_at {fn : Func} {res : List Rv} {σ σ' : St} {r : Pv} {g : Gh} {w : World} {args : List Pv} {vs : Array Value} {own : Pl → Option Nat} {F : Nat → Prop} (hr : cRes P fn.ntmps fn.results.toList = some res)
    (hI : Inv g w σ (fun t => args.getD t .un) vs own F) {ρ1 : Env} {σ1 : St} {a1 : Act} {w1 : World} {g1 : Gh} {own1 : Pl → Option Nat} (hI1 : Inv g1 w1 σ1 ρ1 a1.tmps own1 F) (hE1 : Ext g w g1 w1) (hF1 : Fr F g w g1 w1) (hn1 : a1.tmps.size = fn.ntmps)
    (hfin : Fin res σ r σ' ρ1 σ1) : ∃ v, (results fn a1.tmps).run P w1 = .ok v w1 ∧ ∃ v', Ending.returned v = .returned v' ∧ ∃ g' own', Inv g' w1 σ' (fun _ => r) #[v'] own' F ∧ Ext g w g' w1 ∧ Fr F g w g' w1 := by
  rcases hfin with ⟨n, xs, rfl, hρ, rfl, hk⟩ | ⟨hok, xs, hxs, rfl, hk⟩
  · -- one result, owned
    have hfr : ∃ t, fn.results.toList = [.tmp t] ∧ t = n ∧ t < fn.ntmps := by
      cases hrl : fn.results.toList with
      | nil => rw [hrl] at hr; simp [cRes] at hr
      | cons a l =>
        rw [hrl] at hr
        cases a with
        | tmp t =>
          simp only [cRes] at hr
          split at hr
          · rename_i hlt
            rw [Option.map_eq_some_iff] at hr
            obtain ⟨l', hl', he⟩ := hr
            cases he
            cases l with
            | nil => exact ⟨n, rfl, rfl, hlt⟩
            | cons b l =>
              cases b <;> simp only [cRes] at hl' <;> (split at hl') <;> first | (cases hl'; done) | (rw [Option.map_eq_some_iff] at hl'; obtain ⟨_, _, he⟩ := hl'; cases he) | skip
              split at hl' <;> cases hl'
          · cases hr
        | cell a t =>
          simp only [cRes] at hr
          split at hr
          · split at hr <;> cases hr
          · cases hr
    obtain ⟨t, hrl, rfl, hlt⟩ := hfr
    have hS := hI1.slot t (by rw [hn1]; exact hlt)
    rw [hρ] at hS
    obtain ⟨g', own', i1, i2, i3⟩ := fin_inv hI hI1 hE1 hF1 hk hS (fun b hb => ⟨t, hb⟩)
    refine ⟨_, ?_, _, rfl, g', own', i1, i2, i3⟩
    have hfr : fn.results = #[.tmp t] := by rw [← Array.toArray_toList (xs := fn.results), hrl]
    simp [results, hfr]
  · obtain ⟨g2, hI2, hE2, hF2, hb2, hn2, _, hz2⟩ := hI1.shutbs (resArgs ρ1 res) (resArgs_bsl hI1 hn1 _ _ hr)
    obtain ⟨us, h1, h2, h3⟩ := res_run (P := P) hI1 hn1 hE2 hb2 _ res xs hr hxs (fun x hx => ⟨oksArg_at hok x hx, fun b off n he => hz2 b off n (he ▸ hx)⟩)
    have hrun : (results fn a1.tmps).run P w1 = .ok (if h : us.toArray.size = 1 then us.toArray[0] else .tuple us.toArray) w1 := by
      rw [results_eq, Array.mapM_eq_mapM_toList, map_eq_pure_bind]
      simp only [Sem.run_bind, h1, Sem.run_pure, Result.andThen_ok]
    have hS : S g2 w1 (one? xs) (if h : us.toArray.size = 1 then us.toArray[0] else .tuple us.toArray) none := by
      cases xs with
      | nil =>
        have : us = [] := List.eq_nil_of_length_eq_zero (by simpa using h2)
        subst this
        exact .sh (.tup [] _ rfl fun i x v h => by simp at h)
      | cons x xs =>
        cases xs with
        | nil =>
          obtain ⟨u, rfl⟩ : ∃ u, us = [u] := List.length_eq_one_iff.1 (by simpa using h2)
          exact .sh (h3 0 x u rfl rfl)
        | cons y xs =>
          have hne : ¬ us.toArray.size = 1 := by simp at h2 ⊢; omega
          rw [dif_neg hne]
          exact .sh (.tup _ _ (by simp [h2]) fun i x v hx hv => h3 i x v hx (by simpa using hv))
    obtain ⟨g', own', i1, i2, i3⟩ := fin_inv hI hI2 (hE1.trans hE2) (hF1.trans hF2) hk hS (fun b hb => by cases hb)
    exact ⟨_, hrun, _, rfl, g', own', i1, i2, i3⟩

/-! ### Steps on blocks that are none of the calculus's -/
theorem inv_ext {g g' : Gh} {w w' : World} {σ : St} {ρ : Env} {tm : Array Value} {own : Pl → Option Nat} {F : Nat → Prop} (h : Inv g w σ ρ tm own F) (e : Ext g w g' w') (hn : g'.n = g.n)
    (hk : ∀ p x, own p = some x → w'.heap[x]? = w.heap[x]? ∧ g'.z x = g.z x) : Inv g' w' σ ρ tm own F := by
  refine ⟨hn.trans h.gn, fun t ht => (h.slot t ht).keep e fun b hb => hk _ b hb, fun b hb => ?_, fun b hb => ?_, h.inj, h.dis, fun p x hp => Nat.lt_of_lt_of_le (h.lt p x hp) e.size, fun x hx => Nat.lt_of_lt_of_le (h.flt x hx) e.size⟩
  · rw [e.bl b (h.gn ▸ hb)]
    exact (h.box b hb).keep e (hk _ _ (h.blk b hb)) fun j x hx => hk _ x hx
  · rw [e.bl b (h.gn ▸ hb)]; exact h.blk b hb
theorem inv_F {g : Gh} {w : World} {σ : St} {ρ : Env} {tm : Array Value} {own : Pl → Option Nat} {F F' : Nat → Prop} (h : Inv g w σ ρ tm own F) (hd : ∀ p x, own p = some x → ¬ F' x) (hl : ∀ x, F' x → x < w.heap.size) : Inv g w σ ρ tm own F' :=
  ⟨h.gn, h.slot, h.box, h.blk, h.inj, hd, h.lt, hl⟩
def St.at (σ : St) (k : Nat) : St := ⟨σ.n, σ.m, σ.ro, σ.t, k⟩
theorem inv_k {g : Gh} {w : World} {σ : St} {ρ : Env} {tm : Array Value} {own : Pl → Option Nat} {F : Nat → Prop} (h : Inv g w σ ρ tm own F) (k : Nat) : Inv g w (σ.at k) ρ tm own F :=
  ⟨h.gn, h.slot, h.box, h.blk, h.inj, h.dis, h.lt, h.flt⟩
def noSlot (own : Pl → Option Nat) : Pl → Option Nat
  | .s _ => none
  | q => own q
theorem noSlot_some {own : Pl → Option Nat} {p : Pl} {x : Nat} (h : noSlot own p = some x) : own p = some x := by cases p <;> first | exact h | cases h
theorem inv_slots {g : Gh} {w : World} {σ : St} {ρ ρ' : Env} {tm tm' : Array Value} {own : Pl → Option Nat} {F : Nat → Prop} (h : Inv g w σ ρ tm own F) (hs : ∀ t, t < tm'.size → S g w (ρ' t) (tm'.getD t undef) none) : Inv g w σ ρ' tm' (noSlot own) F :=
  ⟨h.gn, hs, h.box, h.blk, fun p q x hp hq => h.inj p q x (noSlot_some hp) (noSlot_some hq), fun p x hp => h.dis p x (noSlot_some hp), fun p x hp => h.lt p x (noSlot_some hp), h.flt⟩
theorem ext_put {g : Gh} {w : World} {l : Nat} {o : Obj} (o' : Obj) (hl : w.heap[l]? = some o) (hnc : o.isCells = false) (hz : g.z l = some 0) : Ext g w g (w.putObj l o') where
  os := rfl
  tape := rfl
  output := rfl
  size := by simp
  cell b k v hv hs := by
    by_cases e : b = l
    · subst e
      exfalso
      simp only [World.cell?, hl] at hv
      cases o <;> simp_all [Obj.isCells]
    · refine ⟨?_, hs⟩
      have := World.putObj_heap_other (w := w) (o := o') e
      simp only [World.cell?, this] at hv ⊢
      exact hv
  nle := Nat.le_refl _
  bl b hb := rfl
  froz b hb hn := by
    by_cases e : b = l
    · subst e; rw [hz] at hn; cases hn
    · exact ⟨hn, World.putObj_heap_other e⟩
theorem put_inv {g : Gh} {w : World} {σ : St} {ρ : Env} {tm : Array Value} {own : Pl → Option Nat} {F : Nat → Prop} (h : Inv g w σ ρ tm own F) {l : Nat} {o : Obj} (o' : Obj) (hFl : F l) (hl : w.heap[l]? = some o) (hnc : o.isCells = false) (hz : g.z l = some 0) :
    Inv g (w.putObj l o') σ ρ tm own F :=
  inv_ext h (ext_put o' hl hnc hz) rfl fun p x hp => ⟨World.putObj_heap_other (fun e => h.dis p x hp (e ▸ hFl)), rfl⟩

/-! ### A round -/
def jumpOf : Nat → Option Code
  | 0 => none
  | 1 => some .ret
  | k + 2 => some (.exit k)
def recOf (b : Loop) (k : Nat) : Obj := .loop { b with state := if (jumpOf k).isNone then .ready else .done, pending := jumpOf k }
def parEnv (ρ : Env) : List Nat → List Pv → Env
  | p :: ps, x :: xs => parEnv (put ρ p x.shr) ps xs
  | _, _ => ρ
def QB (r : Pv) (σ' : St) : Post := fun e _ σ1 => match e with
  | .nx => r = .bool true ∧ σ' = σ1.at 0
  | .rt => r = .bool false ∧ σ' = σ1.at 1
  | .ex id => r = .bool false ∧ σ' = σ1.at (id + 2)
/-- What a yield does: the assignments, the loop's body. -/
def YB (P : Program) (G : Nat → Option Obj) (ia ib : Ic) (ps : List Nat) (ρ : Env) (args : List Pv) (σ : St) (r : Pv) (σ' : St) : Prop :=
  σ.k = 0 ∧ args.length = ps.length ∧ ia.wp (ARet P G) NoL (Post.then (ib.wp (ARet P G) NoL (QB r σ')) fun _ _ _ => False) (parEnv (fun t => (ρ t).shr) ps args) σ

theorem par_R {g : Gh} {w : World} : ∀ (ps : List Nat) (xs : List Pv) (vs : List Value) (ρ : Env) (tm : Array Value), xs.length = vs.length → (∀ (i : Nat) x v, xs[i]? = some x → vs[i]? = some v → R g w x.shr v) → (∀ t, t < tm.size → R g w (ρ t) (tm.getD t undef)) →
    ((ps.zip vs).foldl (fun t p => t.setIfInBounds p.1 p.2) tm).size = tm.size ∧ ∀ t, t < tm.size → R g w (parEnv ρ ps xs t) (((ps.zip vs).foldl (fun t p => t.setIfInBounds p.1 p.2) tm).getD t undef)
  | [], xs, vs, ρ, tm, hl, hx, hr => by simpa [parEnv] using hr
  | p :: ps, [], [], ρ, tm, hl, hx, hr => by simpa [parEnv] using hr
  | p :: ps, [], v :: vs, ρ, tm, hl, hx, hr => by simp at hl
  | p :: ps, x :: xs, [], ρ, tm, hl, hx, hr => by simp at hl
  | p :: ps, x :: xs, v :: vs, ρ, tm, hl, hx, hr => by
    obtain ⟨h1, h2⟩ := par_R (g := g) (w := w) ps xs vs (put ρ p x.shr) (tm.setIfInBounds p v) (by simpa using hl) (fun i y u hy hu => hx (i + 1) y u (by simpa using hy) (by simpa using hu)) (fun t ht => by
      rw [Array.size_setIfInBounds] at ht
      rw [put_at]
      by_cases e : t = p
      · subst e
        rw [if_pos rfl]
        have : (tm.setIfInBounds t v).getD t undef = v := by simp [Array.getD_eq_getD_getElem?, ht]
        rw [this]
        exact hx 0 x v rfl rfl
      · rw [if_neg e]
        have : (tm.setIfInBounds p v).getD t undef = tm.getD t undef := by
          simp only [Array.getD_eq_getD_getElem?]
          rw [Array.getElem?_setIfInBounds_ne (Ne.symm e)]
        rw [this]
        exact hr t ht)
    rw [Array.size_setIfInBounds] at h1 h2
    exact ⟨by simpa using h1, by simpa [parEnv] using h2⟩

/-- The slots of the loop's own frame, asq they stood where it began. -/
def SlotsR (ρ : Env) (tm : Array Value) (g : Gh) (w : World) : Prop := ∀ t, t < tm.size → R g w (ρ t).shr (tm.getD t undef)
theorem slotsR_ext {ρ : Env} {tm : Array Value} {g g' : Gh} {w w' : World} (h : SlotsR ρ tm g w) (e : Ext g w g' w') : SlotsR ρ tm g' w' := fun t ht => (h t ht).mono e

theorem yb_ok {assign body : Code} {ia ib : Ic} (hca : cCode P [] nt assign = some ia) (hcb : cCode P [] nt body = some ib) (hna : Code.nd assign = true) (hnb : Code.nd body = true) {b : Loop} (ha : b.assign = assign) (hb : b.body = body) (hn : b.tmps.size = nt)
    {l : Nat} {F : Nat → Prop} {ρ : Env} : YOk P G l (recOf b) F (YB P G ia ib b.params.toList ρ) (SlotsR ρ b.tmps) := by
  intro args σ r σ' hYB g w vs own F' hG hH hsz hI hF hz hl
  obtain ⟨hk0, hlen, hwp⟩ := hYB
  have hl0 : w.heap[l]? = some (.loop { b with state := .ready, pending := none }) := by rw [hl, hk0]; rfl
  have hF'l : F' l := hF l (.inr rfl)
  have hy := run_yield (P := P) (args := vs) hl0 (by rw [hsz, hlen]; simp)
  refine ⟨_, _, _, _, hy, roundIn_of_wpIn trivial ?_⟩
  simp only [ha, hb]
  have htm := par_R (g := g) (w := w) b.params.toList args vs.toList (fun t => (ρ t).shr) b.tmps (by simpa using hsz.symm) (fun i x v hx hv => by
    have hlt : i < vs.size := by have := (List.getElem?_eq_some_iff.1 hv).1; simpa using this
    have hS := hI.slot i hlt
    rw [List.getD_eq_getElem?_getD, hx, Array.getD_eq_getD_getElem?] at hS
    rw [Array.getElem?_toList] at hv
    rw [hv] at hS
    exact hS.shr) hH
  obtain ⟨htm1, htm2⟩ := htm
  have hfold : (b.params.zip vs).foldl (fun t (p, v) => t.setIfInBounds p v) b.tmps = (b.params.toList.zip vs.toList).foldl (fun t p => t.setIfInBounds p.1 p.2) b.tmps := by
    rw [← Array.foldl_toList, Array.toList_zip]
  have hI0 := inv_slots hI (tm' := (b.params.toList.zip vs.toList).foldl (fun t p => t.setIfInBounds p.1 p.2) b.tmps) (ρ' := parEnv (fun t => (ρ t).shr) b.params.toList args) fun t ht => .sh (htm2 t (htm1 ▸ ht))
  rw [hfold]
  refine wpIn_mono (cCodeR_snd (G := G) assign ia hca hna _ _ σ hwp F' g w [] _ w hG ⟨g, _, hI0, Ext.refl g w, Fr.refl F' g w, htm1.trans hn, rfl⟩) fun e a1 w1 hq => ?_
  cases e with
  | normal =>
    obtain ⟨ρ1, σ1, ⟨g1, own1, hI1, hE1, hF1, hn1, hd1⟩, hwb⟩ := hq
    have hl1 : w1.heap[l]? = some (.loop { b with state := .ready, pending := none }) := (hF1 l hF'l).1.trans hl0
    have hz1 : g1.z l = some 0 := (hF1 l hF'l).2.trans hz
    refine ⟨_, run_beginRound hl1 rfl, ?_⟩
    have hI2 := put_inv hI1 (.loop { b with state := .busy, pending := none }) hF'l hl1 rfl hz1
    have hE2 := ext_put (.loop { b with state := .busy, pending := none }) hl1 rfl hz1
    have hlt1 : l < w1.heap.size := (Array.getElem?_eq_some_iff.1 hl1).1
    refine wpIn_mono (cCodeR_snd (G := G) body ib hcb hnb _ _ σ1 hwb F' g1 _ [] a1 _ ((hG.mono hE1).mono hE2) ⟨g1, own1, hI2, Ext.refl _ _, Fr.refl _ _ _, hn1, hd1⟩) fun e a3 w3 hq3 => ?_
    have fin : ∀ (jump : Option Code) (k : Nat), jump = jumpOf k → (∃ ρ3 σ3, At nt F' g1 (w1.putObj l (.loop { b with state := .busy, pending := none })) [] ρ3 σ3 a3 w3 ∧ r = .bool jump.isNone ∧ σ' = σ3.at k) →
        ∃ v w', (Instr.endRound l jump).run P w3 = .ok v w' ∧ ∃ v', Ending.returned v = .returned v' ∧ ∃ g' own', Inv g' w' σ' (fun _ => r) #[v'] own' F' ∧ Ext g w g' w' ∧ (∀ x, F' x → x ≠ l → w'.heap[x]? = w.heap[x]? ∧ g'.z x = g.z x) ∧ g'.z l = some 0 ∧ w'.heap[l]? = some (recOf b σ'.k) := by
      rintro jump k hj ⟨ρ3, σ3, ⟨g3, own3, hI3, hE3, hF3, hn3, hd3⟩, rfl, rfl⟩
      have hl3 : w3.heap[l]? = some (.loop { b with state := .busy, pending := none }) := (hF3 l hF'l).1.trans (World.putObj_heap_same hlt1)
      have hz3 : g3.z l = some 0 := (hF3 l hF'l).2.trans hz1
      have hlt3 : l < w3.heap.size := (Array.getElem?_eq_some_iff.1 hl3).1
      refine ⟨_, _, run_endRound jump hl3, _, rfl, g3, noSlot own3, ?_, ?_, ?_, hz3, ?_⟩
      · refine inv_k (inv_slots (put_inv hI3 _ hF'l hl3 rfl hz3) fun t ht => ?_) k
        obtain rfl : t = 0 := by simpa using ht
        exact .sh (.bool _)
      · exact ((hE1.trans hE2).trans hE3).trans (ext_put _ hl3 rfl hz3)
      · intro x hx hne
        rw [World.putObj_heap_other hne, (hF3 x hx).1, World.putObj_heap_other hne, (hF3 x hx).2]
        exact hF1 x hx
      · rw [World.putObj_heap_same hlt3, hj]; rfl
    cases e with
    | normal =>
      obtain ⟨ρ3, σ3, hA3, h1, h2⟩ := hq3
      exact fin none 0 rfl ⟨ρ3, σ3, hA3, h1, h2⟩
    | ret =>
      obtain ⟨ρ3, σ3, hA3, h1, h2⟩ := hq3
      exact fin (some .ret) 1 rfl ⟨ρ3, σ3, hA3, h1, h2⟩
    | exit id =>
      obtain ⟨ρ3, σ3, hA3, h1, h2⟩ := hq3
      exact fin (some (.exit id)) (id + 2) rfl ⟨ρ3, σ3, hA3, h1, h2⟩
    | goto t => exact hq3.elim
    | panic c => exact hq3.elim
    | outgrown => exact hq3.elim
  | ret => obtain ⟨_, _, _, hf⟩ := hq; exact hf.elim
  | exit id => obtain ⟨_, _, _, hf⟩ := hq; exact hf.elim
  | goto t => exact hq.elim
  | panic c => exact hq.elim
  | outgrown => exact hq.elim
end Gx

/- Part Gx28. -/
/- A loop over a function: the law. -/
namespace Gx
open Go hiding sizeOf
open Go.RowKit
variable {P : Program} {G : Nat → Option Obj} {nt : Nat}

/-- What is known of loops. -/
def LRule (C : Crel) (L : Ic → Post → Env → St → Prop) : Prop :=
  ∀ (b : Ic) (Q : Post) (I : Nat → Env → St → Prop), (∀ n ρ σ, I n ρ σ → b.wp C L (Post.then (fun ρ' σ' => ∃ m, m < n ∧ I m ρ' σ') Q) ρ σ) → ∀ n ρ σ, I n ρ σ → L b Q ρ σ

theorem wpIn_loop_down {F : Fence} {n0 : Nat} {c : Code} {Q : Exit → Act → World → Prop} (I : Nat → Act → World → Prop) (round : ∀ n a w, I n a w → c.wpIn F n0 P (Exit.then (fun a' w' => ∃ m, m < n ∧ I m a' w') Q) a w) : ∀ n a w, I n a w → (Code.loop c).wpIn F n0 P Q a w := by
  intro n a w h0 b k cs hro hb hr
  have key : ∀ n a w, I n a w → ∃ e a' w', Q e a' w' ∧ ArrivesIn (Machine.fenced P F) P (lone (b.atR a (.code c :: .inLoop c :: k)) cs w) b k cs e a' w' := by
    intro n
    induction n using Nat.strongRecOn with
    | _ n ih =>
      intro a w hI
      obtain ⟨e, a₁, w₁, hq, harr⟩ := round n a w hI b (.inLoop c :: k) cs hro hb hr
      cases e with
      | normal =>
        obtain ⟨m, hlt, hI₁⟩ := hq
        obtain ⟨e₂, a₂, w₂, hq₂, harr₂⟩ := ih m hlt a₁ w₁ hI₁
        exact ⟨e₂, a₂, w₂, hq₂, .of_steps (StepsIn.trans harr (.one (fenced_calm hb hr rfl) stepR_inLoop)) harr₂⟩
      | exit id => exact ⟨_, a₁, w₁, hq, .pass (x := .inLoop c) rfl (fun _ _ => .inl (by simp)) harr⟩
      | goto l => exact ⟨_, a₁, w₁, hq, .pass (x := .inLoop c) rfl (fun _ _ => .inl (by simp)) harr⟩
      | ret => exact ⟨_, a₁, w₁, hq, .pass (x := .inLoop c) rfl (fun _ _ => .inl (by simp)) harr⟩
      | panic ch => exact ⟨_, a₁, w₁, hq, .pass (x := .inLoop c) rfl (fun _ _ => .inl (by simp)) harr⟩
      | outgrown => exact ⟨_, a₁, w₁, hq, .pass (x := .inLoop c) rfl (fun _ _ => .inl (by simp)) harr⟩
  obtain ⟨e, a', w', hq, harr⟩ := key n a w h0
  exact ⟨e, a', w', hq, .of_steps (.one (fenced_calm hb hr rfl) stepR_loop) harr⟩

theorem loopsY_rule {l : Nat} {rec : Nat → Obj} {F : Nat → Prop} {Y : List Pv → St → Pv → St → Prop} {H : Gh → World → Prop} (hY : YOk P G l rec F Y H) (hH : ∀ {g w g' w'}, H g w → Ext g w g' w' → H g' w') (hFl : ¬ F l) :
    LRule (CY P G l Y) (LoopsY P G nt l rec F H) := by
  intro b Q I round n ρ σ h c hc g0 w0 ds a w hG hH0 hA hok
  refine wpIn_loop_down (fun n a w => ∃ ρ σ, AtY nt l rec F g0 w0 ds ρ σ a w ∧ I n ρ σ) (fun n a w hI => ?_) n a w ⟨ρ, σ, hA, h⟩
  obtain ⟨ρ, σ, hA, hI⟩ := hI
  refine wpIn_mono (cCodeY hY hH hFl c b hc hok _ ρ σ (round n ρ σ hI) g0 w0 ds a w hG hH0 hA) fun e a' w' hq => ?_
  cases e with
  | normal =>
    obtain ⟨ρ', σ', hA', m, hm, hI'⟩ := hq
    exact ⟨m, hm, ρ', σ', hA', hI'⟩
  | exit id => exact hq
  | ret => exact hq
  | goto l => exact hq
  | panic c => exact hq
  | outgrown => exact hq

/-- Behind a loop over a function: the block of the rounds' deferred calls lies there, empty. -/
def AtD (nt : Nat) (F : Nat → Prop) (g0 : Gh) (w0 : World) (ds : List Deferred) (K : Env → St → Prop) (a : Act) (w : World) : Prop :=
  ∃ D ρ σ g own, Inv g w σ ρ a.tmps own (fun x => F x ∨ x = D) ∧ Ext g0 w0 g w ∧ Fr F g0 w0 g w ∧ a.tmps.size = nt ∧ a.defers = { target := .collected D, args := #[] } :: ds ∧ w.heap[D]? = some (.deferred (some [])) ∧ g.z D = some 0 ∧ ¬ F D ∧ K ρ σ
def PostD (nt : Nat) (F : Nat → Prop) (g0 : Gh) (w0 : World) (ds : List Deferred) (Q : Post) : Exit → Act → World → Prop
  | .normal, a, w => AtD nt F g0 w0 ds (Q .nx) a w
  | .exit id, a, w => AtD nt F g0 w0 ds (Q (.ex id)) a w
  | .ret, a, w => AtD nt F g0 w0 ds (Q .rt) a w
  | _, _, _ => False

/-- What the iterator must come to. -/
def ItPost (Q : Post) (ρ : Env) : Post := fun e _ σ => (e = .nx ∨ e = .rt) ∧ match σ.k with
  | 0 => Q .nx (fun t => (ρ t).shr) σ
  | 1 => Q .rt (fun t => (ρ t).shr) σ
  | k + 2 => Q (.ex k) (fun t => (ρ t).shr) σ

theorem rf_law {gop : Operand} {god : Od} (hgo : odOf nt gop = some god) {ps : Array Tmp} {assign body : Code} {ia ib : Ic} (hca : cCode P [] nt assign = some ia) (hcb : cCode P [] nt body = some ib) (hna : Code.nd assign = true) (hnb : Code.nd body = true)
    {gf : FuncId} {caps : List Pv} {ρ : Env} (hcl : god.ev ρ = .clo gf [] caps) (hlt : gf < ynum) {fni : Func} (hfi : P.funcs[gf]? = some fni) (hname : (fni.name == "runtime.NumGoroutine") = false) {ci : Code} (hci : fni.body = some ci) {ii : Ic} (hcci : cCode P [] fni.ntmps ci = some ii)
    (hok : okY P fni.ntmps ci = true) (hres : fni.results = #[]) (hle : caps.length + 1 ≤ fni.ntmps) {Q : Post} {σ : St}
    (hit : ∀ (l : Nat) (L : Ic → Post → Env → St → Prop), LRule (CY P G l (YB P G ia ib ps.toList ρ)) L → ii.wp (CY P G l (YB P G ia ib ps.toList ρ)) L (ItPost Q ρ) (envOf (.clo (ynum + l) [] [] :: caps)) (σ.at 0))
    {F : Nat → Prop} {g0 : Gh} {w0 : World} {ds : List Deferred} {a : Act} {w : World} (hG : GL G g0 w0) (hA : At nt F g0 w0 ds ρ σ a w) : (Code.rangeFunc gop ps assign body).wp P (PostD nt F g0 w0 ds Q) a w := by
  refine (wpIn_wide (n := 0)).1 (wpIn_rangeFunc fun fn _ => ?_)
  obtain ⟨g, own, hI, hE, hF, hn, hds⟩ := hA
  have hrf := od_plain hI hn hgo (by rw [hcl]; simp)
  rw [hcl] at hrf
  obtain ⟨lb, hv, hlb, hcap⟩ : ∃ lb : Array Value, a.eval gop = .func (.func gf) #[] lb ∧ caps.length = lb.size ∧ ∀ (i : Nat) x v, caps[i]? = some x → lb[i]? = some v → R g w x v := by
    generalize a.eval gop = v at hrf
    cases hrf with
    | clo _ _ _ us vs hfl hcl2 r1 r2 hlt2 =>
      obtain rfl : us = #[] := Array.eq_empty_of_size_eq_zero (by simpa using hfl.symm)
      exact ⟨vs, rfl, hcl2, r2⟩
    | yld l' => exact absurd hlt (Nat.not_lt.2 (Nat.le_add_right _ _))
  obtain ⟨base, hbase⟩ : ∃ base : Loop, base = { state := .ready, pending := none, fn, tmps := a.tmps, params := ps, assign, body, defers := w.heap.size } := ⟨_, rfl⟩
  obtain ⟨W1, hW1⟩ : ∃ W1, (w.alloc (.deferred (some []))).alloc (.loop base) = W1 := ⟨_, rfl⟩
  obtain ⟨gL, hgL⟩ : ∃ gL : Gh, (g.zset w.heap.size (some 0)).zset (w.alloc (.deferred (some []))).heap.size (some 0) = gL := ⟨_, rfl⟩
  have hE1 : Ext g w gL W1 := by rw [← hgL, ← hW1]; exact (Ext.alloc _ _).trans (Ext.alloc _ _)
  have hsz : (w.alloc (.deferred (some []))).heap.size = w.heap.size + 1 := by simp
  have hsame : ∀ x, x < w.heap.size → W1.heap[x]? = w.heap[x]? ∧ gL.z x = g.z x := by
    intro x hx
    rw [← hW1, ← hgL]
    refine ⟨(Below.heap_alloc _ _ _ (by rw [hsz]; omega)).trans (Below.heap_alloc _ _ _ hx), ?_⟩
    simp only [Gh.zset, hsz]
    rw [if_neg (by omega), if_neg (by omega)]
  have hlW : W1.heap[w.heap.size + 1]? = some (recOf base 0) := by
    rw [← hW1]
    have := World.alloc_heap_new (w.alloc (.deferred (some []))) (.loop base)
    rw [hsz] at this
    rw [this, hbase]
    rfl
  have hDW : W1.heap[w.heap.size]? = some (.deferred (some [])) := by
    rw [← hW1]; exact (Below.heap_alloc _ _ _ (by rw [hsz]; omega)).trans (World.alloc_heap_new w _)
  have hzl : gL.z (w.heap.size + 1) = some 0 := by rw [← hgL]; simp [Gh.zset]
  have hzD : gL.z w.heap.size = some 0 := by rw [← hgL]; simp only [Gh.zset, hsz]; rw [if_neg (by omega)]; simp
  have hWs : W1.heap.size = w.heap.size + 2 := by rw [← hW1]; simp
  have hFD : ¬ F w.heap.size := fun h => Nat.lt_irrefl _ (hI.flt _ h)
  have hSl : SlotsR ρ a.tmps g w := fun t ht => (hI.slot t ht).shr
  have hI1 : Inv gL W1 (σ.at 0) (envOf (.clo (ynum + (w.heap.size + 1)) [] [] :: caps)) (#[Value.func (Fn.yield (w.heap.size + 1)) #[] #[]] ++ lb ++ Array.replicate (fni.ntmps - (#[Value.func (Fn.yield (w.heap.size + 1)) #[] #[]] ++ lb).size) undef) (noSlot own)
      (fun x => (F x ∨ x = w.heap.size) ∨ x = w.heap.size + 1) := by
    refine inv_F (F := F) (inv_k (inv_slots (inv_ext hI hE1 (by rw [← hgL]; rfl) fun p x hp => hsame x (hI.lt p x hp)) fun t ht => ?_) 0) (fun p x hp hx => ?_) fun x hx => ?_
    · rw [Array.getD_eq_getD_getElem?]
      unfold envOf
      rw [List.getD_eq_getElem?_getD]
      cases t with
      | zero =>
        have e1 : (#[Value.func (Fn.yield (w.heap.size + 1)) #[] #[]] ++ lb ++ Array.replicate (fni.ntmps - (#[Value.func (Fn.yield (w.heap.size + 1)) #[] #[]] ++ lb).size) undef)[0]? = some (Value.func (Fn.yield (w.heap.size + 1)) #[] #[]) := by
          rw [Array.getElem?_append_left (by simp; omega), Array.getElem?_append_left (by simp)]
          rfl
        rw [e1]
        exact .sh (.yld _)
      | succ t =>
        by_cases h1 : t < lb.size
        · have e1 : (#[Value.func (Fn.yield (w.heap.size + 1)) #[] #[]] ++ lb ++ Array.replicate (fni.ntmps - (#[Value.func (Fn.yield (w.heap.size + 1)) #[] #[]] ++ lb).size) undef)[t + 1]? = some lb[t] := by
            rw [Array.getElem?_append_left (by simp; omega), Array.getElem?_append_right (by simp)]
            simp [h1]
          rw [e1]
          have h2 : t < caps.length := by omega
          have e2 : (Pv.clo (ynum + (w.heap.size + 1)) [] [] :: caps)[t + 1]? = some caps[t] := by simp [h2]
          rw [e2]
          exact .sh ((hcap t _ _ (by simp [h2]) (by simp [h1])).mono hE1)
        · have e1 : (#[Value.func (Fn.yield (w.heap.size + 1)) #[] #[]] ++ lb ++ Array.replicate (fni.ntmps - (#[Value.func (Fn.yield (w.heap.size + 1)) #[] #[]] ++ lb).size) undef)[t + 1]?.getD undef = undef := by
            rw [Array.getElem?_append_right (by simp; omega), Array.getElem?_replicate]
            split <;> rfl
          rw [e1]
          have e2 : (Pv.clo (ynum + (w.heap.size + 1)) [] [] :: caps)[t + 1]? = none := by simp; omega
          rw [e2]
          exact .sh .un
    · have hx' := hI.lt _ x (noSlot_some hp)
      rcases hx with (hx | hx) | hx
      · exact hI.dis _ x (noSlot_some hp) hx
      · omega
      · omega
    · rcases hx with (hx | hx) | hx
      · have := hI.flt x hx; omega
      · omega
      · omega
  have hFl : ¬ ((fun x => F x ∨ x = w.heap.size) (w.heap.size + 1)) := by
    rintro (h | h)
    · have := hI.flt _ h; omega
    · omega
  have hY : YOk P G (w.heap.size + 1) (recOf base) (fun x => F x ∨ x = w.heap.size) (YB P G ia ib ps.toList ρ) (SlotsR ρ a.tmps) := by
    have := yb_ok (P := P) (G := G) (nt := nt) (b := base) (l := w.heap.size + 1) (F := fun x => F x ∨ x = w.heap.size) (ρ := ρ) hca hcb hna hnb (by rw [hbase]) (by rw [hbase]) (by rw [hbase]; exact hn)
    rw [hbase] at this ⊢
    exact this
  refine ⟨w.heap.size + 1, [{ target := .collected w.heap.size, args := #[] }], W1, { target := .fn (.func gf) lb, args := #[.func (.yield (w.heap.size + 1)) #[] #[]] }, W1, gf, #[.func (.yield (w.heap.size + 1)) #[] #[]] ++ lb, W1, ?_, ?_, fun _ _ => trivial, ?_, fun h => (by simp [Fence.wide] at h), ?_⟩
  · rw [← hW1, hbase]; exact run_enterLoop_outer _ _ _ _ _
  · simp only [resolve, hv]
    simp [go_sem]
  · have hbn' : ¬ fni.body = none := by rw [hci]; simp
    have hnm : ¬ fni.name = "runtime.NumGoroutine" := by simpa using hname
    simp [invoke, callFunc, hfi, hnm, hbn']
  · refine callsIn_of_wp hfi hci trivial ?_ rfl
    refine wpIn_mono (cCodeY (nt := fni.ntmps) hY slotsR_ext hFl ci ii hcci hok _ _ (σ.at 0) (hit (w.heap.size + 1) _ (loopsY_rule hY slotsR_ext hFl)) gL W1 [] _ W1 (hG.mono (hE.trans hE1)) (slotsR_ext hSl hE1)
      ⟨gL, noSlot own, hI1, Ext.refl _ _, Fr.refl _ _ _, by simp; omega, rfl, hzl, hlW⟩) fun e a3 w3 hq => ?_
    have fin : AtYK fni.ntmps (w.heap.size + 1) (recOf base) (fun x => F x ∨ x = w.heap.size) gL W1 [] (fun ρ' σe => match σe.k with
          | 0 => Q .nx (fun t => (ρ t).shr) σe
          | 1 => Q .rt (fun t => (ρ t).shr) σe
          | k + 2 => Q (.ex k) (fun t => (ρ t).shr) σe) a3 w3 → a3.defers = [] ∧ ∃ v, (results fni a3.tmps).run P w3 = .ok v w3 ∧
        rangePost Fence.wide 0 P (w.heap.size + 1) (PostD nt F g0 w0 ds Q) { a with defers := [{ target := .collected w.heap.size, args := #[] }] ++ a.defers } (.returned v) w3 := by
      rintro ⟨ρ3, σe, ⟨g3, own3, hI3, hE3, hF3, hn3, hd3, hz3, hl3⟩, hQ⟩
      refine ⟨hd3, _, by simp [results, hres]; rfl, ?_⟩
      have hnb3 : ({ base with state := if (jumpOf σe.k).isNone then LoopState.ready else LoopState.done, pending := jumpOf σe.k } : Loop).state ≠ .busy := by
        simp only
        split <;> simp
      refine ⟨_, _, run_endLoop hl3 hnb3, ?_⟩
      have hI4 := put_inv hI3 (.loop { ({ base with state := if (jumpOf σe.k).isNone then LoopState.ready else LoopState.done, pending := jumpOf σe.k } : Loop) with state := .exhausted }) (.inr rfl) hl3 rfl hz3
      have hE4 := ext_put (.loop { ({ base with state := if (jumpOf σe.k).isNone then LoopState.ready else LoopState.done, pending := jumpOf σe.k } : Loop) with state := .exhausted }) hl3 rfl hz3
      have hEE := ((hE.trans hE1).trans hE3).trans hE4
      have hSl4 := slotsR_ext hSl ((hE1.trans hE3).trans hE4)
      have hD : ∀ K : Env → St → Prop, K (fun t => (ρ t).shr) σe → AtD nt F g0 w0 ds K { a with defers := [{ target := .collected w.heap.size, args := #[] }] ++ a.defers } (w3.putObj (w.heap.size + 1) (.loop { ({ base with state := if (jumpOf σe.k).isNone then LoopState.ready else LoopState.done, pending := jumpOf σe.k } : Loop) with state := .exhausted })) := by
        intro K hK
        refine ⟨w.heap.size, _, σe, g3, noSlot own3, inv_F (inv_slots hI4 fun t ht => .sh (hSl4 t ht)) (fun p x hp hx => hI4.dis p x (noSlot_some hp) (.inl hx)) (fun x hx => hI4.flt x (.inl hx)), hEE, ?_, hn, by rw [← hds]; rfl, ?_, ?_, hFD, hK⟩
        · intro x hx
          have hxl := hI.flt x hx
          rw [World.putObj_heap_other (by omega), (hF3 x (.inl hx)).1, (hF3 x (.inl hx)).2, (hsame x hxl).1, (hsame x hxl).2]
          exact hF x hx
        · rw [World.putObj_heap_other (by omega), (hF3 _ (.inr rfl)).1]; exact hDW
        · rw [(hF3 _ (.inr rfl)).2]; exact hzD
      cases hk : σe.k with
      | zero => rw [hk] at hQ; simp only [hk, jumpOf] at hD ⊢; exact hD _ hQ
      | succ k => cases k with
        | zero => rw [hk] at hQ; simp only [hk, jumpOf] at hD ⊢; exact wpIn_ret (hD _ hQ)
        | succ k => rw [hk] at hQ; simp only [hk, jumpOf] at hD ⊢; exact wpIn_exit (hD _ hQ)
    cases e with
    | normal => obtain ⟨ρ3, σ3, hA3, _, hq3⟩ := hq; exact fin ⟨ρ3, σ3, hA3, hq3⟩
    | ret => obtain ⟨ρ3, σ3, hA3, _, hq3⟩ := hq; exact fin ⟨ρ3, σ3, hA3, hq3⟩
    | exit id => obtain ⟨_, _, _, hf, _⟩ := hq; rcases hf with hf | hf <;> cases hf
    | goto t => exact hq.elim
    | panic c => exact hq.elim
    | outgrown => exact hq.elim
end Gx

/- Part Gx29. -/
/- Functions that hold a loop over a function. -/
namespace Gx
open Go hiding sizeOf
open Go.RowKit
variable {P : Program} {G : Nat → Option Obj} {nt : Nat}

theorem seq_pl {x y : Code} {ix : Ic} (hx : cCode P [] nt x = some ix) {Q : Post} {R : Exit → Act → World → Prop} {F : Nat → Prop} {g0 : Gh} {w0 : World} {ds : List Deferred} {ρ : Env} {σ : St} {a : Act} {w : World}
    (hR : ∀ e a w, e ≠ .normal → PostQ nt F g0 w0 ds Q e a w → R e a w) (hG : GL G g0 w0) (hA : At nt F g0 w0 ds ρ σ a w)
    (h : ix.wp (ARet P G) (Loops P G [] nt) (Post.then (fun ρ' σ' => ∀ a' w', At nt F g0 w0 ds ρ' σ' a' w' → y.wp P R a' w') Q) ρ σ) : (Code.seq x y).wp P R a w := by
  refine wp_seq (wp_mono (cCode_snd (G := G) x ix hx _ ρ σ h F g0 w0 ds a w hG hA) fun e a' w' hq => ?_)
  cases e with
  | normal => obtain ⟨ρ', σ', hA', hK⟩ := hq; exact hK a' w' hA'
  | exit id => exact hR _ _ _ (by simp) hq
  | ret => exact hR _ _ _ (by simp) hq
  | goto l => exact hq.elim
  | panic c => exact hq.elim
  | outgrown => exact hq.elim

/-- Code behind the loop. -/
theorem cCode_D {c : Code} {ic : Ic} (hc : cCode P [] nt c = some ic) {Q : Post} {F : Nat → Prop} {g0 : Gh} {w0 : World} {ds : List Deferred} {a : Act} {w : World} (hG : GL G g0 w0)
    (h : AtD nt F g0 w0 ds (fun ρ σ => ic.wp (ARet P G) (Loops P G [] nt) Q ρ σ) a w) : c.wp P (PostD nt F g0 w0 ds Q) a w := by
  obtain ⟨D, ρ, σ, g, own, hI, hE, hF, hn, hds, hD, hz, hFD, hw⟩ := h
  refine wp_mono (cCode_snd (G := G) c ic hc Q ρ σ hw (fun x => F x ∨ x = D) g w _ a w (hG.mono hE) ⟨g, own, hI, Ext.refl _ _, Fr.refl _ _ _, hn, hds⟩) fun e a' w' hq => ?_
  have key : ∀ K : Env → St → Prop, AtK nt (fun x => F x ∨ x = D) g w ({ target := .collected D, args := #[] } :: ds) K a' w' → AtD nt F g0 w0 ds K a' w' := by
    rintro K ⟨ρ', σ', ⟨g', own', hI', hE', hF', hn', hds'⟩, hK⟩
    exact ⟨D, ρ', σ', g', own', hI', hE.trans hE', hF.trans fun x hx => hF' x (.inl hx), hn', hds', (hF' D (.inr rfl)).1.trans hD, (hF' D (.inr rfl)).2.trans hz, hFD, hK⟩
  cases e with
  | normal => exact key _ hq
  | exit id => exact key _ hq
  | ret => exact key _ hq
  | goto l => exact hq.elim
  | panic c => exact hq.elim
  | outgrown => exact hq.elim

/-- The loop in its block, and what comes behind it. -/
theorem rf_mid {id : Nat} {gop : Operand} {god : Od} (hgo : odOf nt gop = some god) {ps : Array Tmp} {assign body z : Code} {ia ib iz : Ic} (hca : cCode P [] nt assign = some ia) (hcb : cCode P [] nt body = some ib) (hcz : cCode P [] nt z = some iz) (hna : Code.nd assign = true) (hnb : Code.nd body = true)
    {gf : FuncId} {caps : List Pv} {ρ : Env} (hcl : god.ev ρ = .clo gf [] caps) (hlt : gf < ynum) {fni : Func} (hfi : P.funcs[gf]? = some fni) (hname : (fni.name == "runtime.NumGoroutine") = false) {ci : Code} (hci : fni.body = some ci) {ii : Ic} (hcci : cCode P [] fni.ntmps ci = some ii)
    (hok : okY P fni.ntmps ci = true) (hres : fni.results = #[]) (hle : caps.length + 1 ≤ fni.ntmps) {Q : Post} {σ : St}
    (hit : ∀ (l : Nat) (L : Ic → Post → Env → St → Prop), LRule (CY P G l (YB P G ia ib ps.toList ρ)) L →
      ii.wp (CY P G l (YB P G ia ib ps.toList ρ)) L (ItPost (Post.blk id (Post.then (fun ρ σ => iz.wp (ARet P G) (Loops P G [] nt) Q ρ σ) Q)) ρ) (envOf (.clo (ynum + l) [] [] :: caps)) (σ.at 0))
    {F : Nat → Prop} {g0 : Gh} {w0 : World} {ds : List Deferred} {a : Act} {w : World} (hG : GL G g0 w0) (hA : At nt F g0 w0 ds ρ σ a w) {R : Exit → Act → World → Prop} (hRD : ∀ e a w, PostD nt F g0 w0 ds Q e a w → R e a w) :
    (Code.block id (Code.rangeFunc gop ps assign body)).wp P (Exit.then (z.wp P R) R) a w := by
  refine wp_block (wp_mono (rf_law hgo hca hcb hna hnb hcl hlt hfi hname hci hcci hok hres hle hit hG hA) fun e a' w' hq => ?_)
  have hz : AtD nt F g0 w0 ds (fun ρ σ => iz.wp (ARet P G) (Loops P G [] nt) Q ρ σ) a' w' → z.wp P R a' w' := fun h => wp_mono (cCode_D hcz hG h) hRD
  cases e with
  | normal => exact hz hq
  | exit i =>
    simp only [PostD, Post.blk, Exit.inBlock] at hq ⊢
    split
    · rename_i hi; simp only [hi, if_true] at hq; exact hz hq
    · rename_i hi; simp only [hi, if_false] at hq; exact hRD (.exit i) _ _ hq
  | ret => exact hRD .ret _ _ hq
  | goto l => exact hq.elim
  | panic c => exact hq.elim
  | outgrown => exact hq.elim

def PostF (nt : Nat) (F : Nat → Prop) (g0 : Gh) (w0 : World) (Q : Post) : Exit → Act → World → Prop := fun e a w => PostQ nt F g0 w0 [] Q e a w ∨ PostD nt F g0 w0 [] Q e a w

theorem aret_marks {f : FuncId} {fn : Func} {c : Code} {res : List Rv} {args : List Pv} {σ σ' : St} {r : Pv} (hlt : f < ynum) (hf : P.funcs[f]? = some fn) (hname : (fn.name == "runtime.NumGoroutine") = false) (hb : fn.body = some c) (hr : cRes P fn.ntmps fn.results.toList = some res) (hle : args.length ≤ fn.ntmps)
    (hw : ∀ (F : Nat → Prop) (g : Gh) (w : World) (a : Act), GL G g w → At fn.ntmps F g w [] (envOf args) σ a w → c.wp P (PostF fn.ntmps F g w (Done res σ r σ')) a w) : ARet P G f args σ r σ' := by
  refine ⟨⟨hlt, fn, hf, hname, by simp [hb]⟩, fun g w vs own F hG hsz hI => ?_⟩
  have hI0 : Inv g w σ (envOf args) (vs ++ Array.replicate (fn.ntmps - vs.size) undef) (fun p => match p with
      | .s t => if t < vs.size then own (.s t) else none
      | q => own q) F := by
    have key : ∀ p x, (match p with
      | .s t => if t < vs.size then own (.s t) else none
      | q => own q) = some x → own p = some x := by
      intro p x hp
      cases p with
      | s t => simp only at hp; split at hp <;> first | exact hp | cases hp
      | c b j => exact hp
      | b b => exact hp
    refine ⟨hI.gn, ?_, hI.box, hI.blk, fun p q x hp hq => hI.inj p q x (key p x hp) (key q x hq), fun p x hp => hI.dis p x (key p x hp), fun p x hp => hI.lt p x (key p x hp), hI.flt⟩
    intro t ht
    unfold envOf
    by_cases htv : t < vs.size
    · have := hI.slot t htv
      simp only [htv, if_true, Array.getD_eq_getD_getElem?] at this ⊢
      rw [Array.getElem?_append_left htv]
      exact this
    · simp only [htv, if_false, Array.getD_eq_getD_getElem?]
      rw [Array.getElem?_append_right (by omega)]
      have h1 : args.getD t .un = .un := by
        rw [List.getD_eq_getElem?_getD, List.getElem?_eq_none (by omega)]; rfl
      rw [h1]
      have h2 : (Array.replicate (fn.ntmps - vs.size) undef)[t - vs.size]?.getD undef = undef := by
        rw [Array.getElem?_replicate]; split <;> rfl
      rw [h2]
      exact .sh .un
  refine (callsIn_wide (n := 0)).1 (callsIn_of_wp_marks hf hb trivial ((wpIn_wide (n := 0)).2 (wp_mono (hw F g w _ hG ⟨g, _, hI0, Ext.refl g w, Fr.refl F g w, by simp; omega, rfl⟩) fun e a1 w1 hq => ?_)) rfl)
  have finQ : AtK fn.ntmps F g w [] (fun ρ1 σ1 => Fin res σ r σ' ρ1 σ1) a1 w1 → LeavesInM Fence.wide 0 P fn a1.tmps (fun e w' => ∃ v, e = .returned v ∧ ∃ g' own', Inv g' w' σ' (fun _ => r) #[v] own' F ∧ Ext g w g' w' ∧ Fr F g w g' w') a1.defers .returning w1 := by
    rintro ⟨ρ1, σ1, ⟨g1, own1, hI1, hE1, hF1, hn1, hds⟩, hfin⟩
    obtain ⟨v, hv, v', e, g', own', h1, h2, h3⟩ := fin_at (P := P) hr hI hI1 hE1 hF1 hn1 hfin
    cases e
    rw [hds]
    exact ⟨_, hv, _, rfl, g', own', h1, h2, h3⟩
  have finD : AtD fn.ntmps F g w [] (fun ρ1 σ1 => Fin res σ r σ' ρ1 σ1) a1 w1 → LeavesInM Fence.wide 0 P fn a1.tmps (fun e w' => ∃ v, e = .returned v ∧ ∃ g' own', Inv g' w' σ' (fun _ => r) #[v] own' F ∧ Ext g w g' w' ∧ Fr F g w g' w') a1.defers .returning w1 := by
    rintro ⟨D, ρ1, σ1, g1, own1, hI1, hE1, hF1, hn1, hds, hD, hz, hFD, hfin⟩
    rw [hds]
    refine ⟨by simp, .inl ⟨D, _, rfl, run_takeDeferred hD, ?_⟩⟩
    have hI2 := put_inv hI1 (.deferred none) (.inr rfl) hD rfl hz
    have hE2 := hE1.trans (ext_put (.deferred none) hD rfl hz)
    have hF2 : Fr F g w g1 (w1.putObj D (.deferred none)) := fun x hx => ⟨(World.putObj_heap_other (r := D) (k := x) (fun e => hFD (by rw [← e]; exact hx))).trans (hF1 x hx).1, (hF1 x hx).2⟩
    obtain ⟨v, hv, v', e, g', own', h1, h2, h3⟩ := fin_at (P := P) hr hI (inv_F hI2 (fun p x hp hx => hI2.dis p x hp (.inl hx)) fun x hx => hI2.flt x (.inl hx)) hE2 hF2 hn1 hfin
    cases e
    exact ⟨_, hv, _, rfl, g', own', h1, h2, h3⟩
  cases e with
  | normal => exact hq.elim finQ finD
  | ret => exact hq.elim finQ finD
  | exit id =>
    rcases hq with hq | hq
    · obtain ⟨_, _, _, hf⟩ := hq; exact hf.elim
    · obtain ⟨_, _, _, _, _, _, _, _, _, _, _, _, _, hf⟩ := hq; exact hf.elim
  | goto l => exact hq.elim (fun h => h) (fun h => h)
  | panic c => exact hq.elim (fun h => h.elim) (fun h => h.elim)
  | outgrown => exact hq.elim (fun h => h.elim) (fun h => h.elim)
end Gx

/- Part Gx30. -/
/- What holds without boxes holds beside any. -/
namespace Gx
open Go hiding sizeOf
variable {P : Program} {G : Nat → Option Obj}

theorem clean0_R {g : Gh} {w : World} {x : Pv} {v : Value} (h : R g w x v) (hc : clean 0 x = true) (bl : Nat → Nat) (n : Nat) : R ⟨g.z, bl, n⟩ w x v := by
  have h0 := h.restrict hc
  have e : Ext ⟨g.z, g.bl, 0⟩ w ⟨g.z, bl, n⟩ w := ⟨rfl, rfl, rfl, Nat.le_refl _, fun _ _ _ a b => ⟨a, b⟩, Nat.zero_le _, fun b hb => absurd hb (Nat.not_lt_zero b), fun _ _ a => ⟨a, rfl⟩⟩
  exact h0.mono e

theorem aret_frame {f : FuncId} {args : List Pv} {r : Pv} (h : ARet P G f args (toSt []) r (toSt [])) (ha : cleanL 0 args = true) (ha' : args.map Pv.shr = args) (hr : clean 0 r = true) (hr' : r.shr = r) (σ : St) : ARet P G f args σ r σ := by
  refine ⟨h.1, fun g w vs own F hG hsz hI => ?_⟩
  have hI0 : Inv ⟨g.z, g.bl, 0⟩ w (toSt []) (fun t => args.getD t .un) vs (fun _ => none) (fun x => F x ∨ ∃ p, own p = some x) := by
    refine ⟨rfl, fun t ht => ?_, fun b hb => absurd hb (Nat.not_lt_zero b), fun b hb => absurd hb (Nat.not_lt_zero b), fun p q x hp => (by cases hp), fun p x hp => (by cases hp), fun p x hp => (by cases hp), fun x hx => ?_⟩
    · have hlt : t < args.length := by omega
      have hS := (hI.slot t ht).shr
      have e : args.getD t .un = args[t] := by simp [hlt]
      rw [e] at hS ⊢
      have e2 : args[t].shr = args[t] := by
        have h1 : (args.map Pv.shr)[t]? = args[t]? := by rw [ha']
        simp [hlt] at h1
        exact h1
      rw [e2] at hS
      exact .sh (clean0_R hS (cleanL_iff.1 ha _ (List.getElem_mem hlt)) g.bl 0)
    · rcases hx with hx | ⟨p, hp⟩
      · exact hI.flt x hx
      · exact hI.lt p x hp
  refine Calls.mono (h.2 ⟨g.z, g.bl, 0⟩ w vs _ _ (fun b o hb => hG b o hb) hsz hI0) fun e w' hpost => ?_
  obtain ⟨v, rfl, g', own', hI', hE', hF'⟩ := hpost
  have hE : Ext g w ⟨g'.z, g.bl, g.n⟩ w' := ⟨hE'.os, hE'.tape, hE'.output, hE'.size, fun b o v hv hs => hE'.cell b o v hv hs, Nat.le_refl _, fun _ _ => rfl, fun b hb hz => hE'.froz b hb hz⟩
  have hv := (hI'.slot 0 (by simp)).shr
  rw [hr'] at hv
  refine ⟨v, rfl, ⟨g'.z, g.bl, g.n⟩, noSlot own, inv_slots (inv_ext hI hE rfl fun p x hp => hF' x (.inr ⟨p, hp⟩)) fun t ht => ?_, hE, fun x hx => hF' x (.inl hx)⟩
  obtain rfl : t = 0 := by simpa using ht
  exact .sh (clean0_R hv hr g.bl g.n)
end Gx

/- Part Gx20. -/
/- Contracts of the kit's own form asq contracts here. -/
namespace Gx
open Go Go.RowKit

theorem Ext.below {g : Gh} {w w' : World} (h : Below w.heap.size w w') : Ext g w g w' where
  os := h.os
  tape := h.tape
  output := h.output
  size := h.size
  cell b o v hv hs := by
    have hb := h.block b (cell_lt hv)
    refine ⟨?_, hs⟩
    rw [← hv]
    simp only [World.cell?, hb]
  nle := Nat.le_refl _
  bl _ _ := rfl
  froz b hb hz := ⟨hz, h.block b hb⟩

/-- A contract of a function that turns nothing that there is. -/
theorem aret_below {P : Program} {G : Nat → Option Obj} {f : FuncId} {args : List Pv} {σ : St} {r : Pv} (hent : Enters P f)
    (h : ∀ (g : Gh) (w : World) (vs : Array Value), GL G g w → vs.size = args.length → (∀ t, t < vs.size → R g w (args.getD t .un).shr (vs.getD t undef)) →
      Calls P f vs w fun e w' => ∃ v, e = .returned v ∧ Below w.heap.size w w' ∧ R g w' r v) : ARet P G f args σ r σ := by
  refine ⟨hent, fun g w vs own F hG hsz hI => ?_⟩
  refine (h g w vs hG hsz fun t ht => (hI.slot t ht).shr).mono ?_
  rintro e w' ⟨v, rfl, hB, hR⟩
  have hE : Ext g w g w' := Ext.below hB
  have hW := hI.world hE rfl fun p x hp => ⟨hB.block x (hI.lt p x hp), rfl⟩
  let own' : Pl → Option Nat := fun p => match p with
    | .s _ => none
    | .c b j => own (.c b j)
    | .b b => own (.b b)
  have key : ∀ p x, own' p = some x → own p = some x := by
    intro p x hp
    cases p with
    | s t => cases hp
    | c b j => exact hp
    | b b => exact hp
  refine ⟨v, rfl, g, own', ⟨hW.gn, fun t ht => ?_, hW.box, hW.blk, fun p q x hp hq => hW.inj p q x (key p x hp) (key q x hq), fun p x hp => hW.dis p x (key p x hp), fun p x hp => hW.lt p x (key p x hp), hW.flt⟩, hE, fun x hx => ⟨hB.block x (hI.flt x hx), rfl⟩⟩
  have ht0 : t = 0 := by simp at ht; omega
  subst ht0
  exact .sh hR

theorem arr1 {vs : Array Value} (h : vs.size = 1) : vs = #[vs.getD 0 undef] := by
  apply Array.ext (by simpa using h)
  intro i h1 h2
  have : i = 0 := by simp at h2; omega
  subst this
  simp [Array.getD, h]
theorem arr2 {vs : Array Value} (h : vs.size = 2) : vs = #[vs.getD 0 undef, vs.getD 1 undef] := by
  apply Array.ext (by simpa using h)
  intro i h1 h2
  have : i = 0 ∨ i = 1 := by simp at h2; omega
  rcases this with rfl | rfl <;> simp [Array.getD, h]

theorem aret_str {P : Program} {G : Nat → Option Obj} {f : FuncId} {l : List UInt8} {σ : St} {r : Pv} (hent : Enters P f)
    (h : ∀ (g : Gh) (w : World) (s : ByteArray), GL G g w → s.data.toList = l → l.length < 2 ^ 63 →
      Calls P f #[.string s] w fun e w' => ∃ v, e = .returned v ∧ Below w.heap.size w w' ∧ R g w' r v) : ARet P G f [.str l] σ r σ := by
  refine aret_below hent fun g w vs hG hsz hR => ?_
  have h0 := hR 0 (by simp at hsz; omega)
  obtain ⟨s, h1, h2, h3⟩ := R.str_inv (show R g w (.str l) (vs.getD 0 undef) from h0)
  rw [arr1 (vs := vs) (by simpa using hsz), h1]
  exact h g w s hG h2 h3
theorem aret_int {P : Program} {G : Nat → Option Obj} {f : FuncId} {k : IntKind} {n : Int} {σ : St} {r : Pv} (hent : Enters P f)
    (h : ∀ (g : Gh) (w : World), GL G g w →
      Calls P f #[.int k n] w fun e w' => ∃ v, e = .returned v ∧ Below w.heap.size w w' ∧ R g w' r v) : ARet P G f [.int k n] σ r σ := by
  refine aret_below hent fun g w vs hG hsz hR => ?_
  have h0 := hR 0 (by simp at hsz; omega)
  have h1 := R.int_inv (show R g w (.int k n) (vs.getD 0 undef) from h0)
  rw [arr1 (vs := vs) (by simpa using hsz), h1]
  exact h g w hG
theorem aret_str2 {P : Program} {G : Nat → Option Obj} {f : FuncId} {l m : List UInt8} {σ : St} {r : Pv} (hent : Enters P f)
    (h : ∀ (g : Gh) (w : World) (s t : ByteArray), GL G g w → s.data.toList = l → l.length < 2 ^ 63 → t.data.toList = m → m.length < 2 ^ 63 →
      Calls P f #[.string s, .string t] w fun e w' => ∃ v, e = .returned v ∧ Below w.heap.size w w' ∧ R g w' r v) : ARet P G f [.str l, .str m] σ r σ := by
  refine aret_below hent fun g w vs hG hsz hR => ?_
  have h0 := hR 0 (by simp at hsz; omega)
  have h0' := hR 1 (by simp at hsz; omega)
  obtain ⟨s, h1, h2, h3⟩ := R.str_inv (show R g w (.str l) (vs.getD 0 undef) from h0)
  obtain ⟨t, h1', h2', h3'⟩ := R.str_inv (show R g w (.str m) (vs.getD 1 undef) from h0')
  rw [arr2 (vs := vs) (by simpa using hsz), h1, h1']
  exact h g w s t hG h2 h3 h2' h3'
theorem aret_strint {P : Program} {G : Nat → Option Obj} {f : FuncId} {l : List UInt8} {k : IntKind} {n : Int} {σ : St} {r : Pv} (hent : Enters P f)
    (h : ∀ (g : Gh) (w : World) (s : ByteArray), GL G g w → s.data.toList = l → l.length < 2 ^ 63 →
      Calls P f #[.string s, .int k n] w fun e w' => ∃ v, e = .returned v ∧ Below w.heap.size w w' ∧ R g w' r v) : ARet P G f [.str l, .int k n] σ r σ := by
  refine aret_below hent fun g w vs hG hsz hR => ?_
  have h0 := hR 0 (by simp at hsz; omega)
  have h0' := hR 1 (by simp at hsz; omega)
  obtain ⟨s, h1, h2, h3⟩ := R.str_inv (show R g w (.str l) (vs.getD 0 undef) from h0)
  have h1' := R.int_inv (show R g w (.int k n) (vs.getD 1 undef) from h0')
  rw [arr2 (vs := vs) (by simpa using hsz), h1, h1']
  exact h g w s hG h2 h3

end Gx

/- Part Ir0. -/
open Go Go.Proofs Gx
namespace Gx
def ir10 : If := ⟨36, [.t 2],
 .seq (.reg <|
   .one none (.tk 2 (.c (.bool false))) <|
   .nil) <|
 .seq (.seq (.reg <|
    .one none (.mv 6 (.t 0)) <|
    .one none (.ln 7 false (.t 6)) <|
    .one none (.bi 8 .gtr (.t 7) (.c (.int .i64 2000))) <|
    .nil) <|
  .cond (.t 8) (.seq (.reg <|
     .one none (.ca (some 9) (.c (.clo 16 [] [])) []) <|
     .one none (.tk 2 (.t 9)) <|
     .nil) <|
   .ret) <|
  .skip) <|
 .seq (.reg <|
   .one none (.mv 10 (.t 0)) <|
   .one none (.ca (some 11) (.c (.clo 30 [] [])) [(false, (.t 10))]) <|
   .one none (.mv 12 (.t 0)) <|
   .one none (.ca (some 13) (.c (.clo 31 [] [])) [(false, (.t 12))]) <|
   .one none (.tk 3 (.t 11)) <|
   .one none (.tk 4 (.t 13)) <|
   .nil) <|
 .seq (.seq (.reg <|
    .one none (.mv 14 (.t 3)) <|
    .one none (.ln 15 false (.t 14)) <|
    .one none (.mv 16 (.t 4)) <|
    .one none (.ln 17 false (.t 16)) <|
    .one none (.bi 18 .neq (.t 15) (.t 17)) <|
    .nil) <|
  .cond (.t 18) (.seq (.reg <|
     .one none (.tk 2 (.c (.bool false))) <|
     .nil) <|
   .ret) <|
  .skip) <|
 .seq (.seq (.reg <|
    .one none (.mv 19 (.t 3)) <|
    .one none (.ln 20 false (.t 19)) <|
    .one none (.mv 21 (.c (.int .i64 0))) <|
    .nil) <|
  .block 0 <|
  .loop <|
  .seq (.reg <|
    .one none (.bi 22 .lss (.t 21) (.t 20)) <|
    .nil) <|
  .seq (.cond (.t 22) (.skip) <|
   .exit 0) <|
  .seq (.block 1 <|
   .seq (.reg <|
     .one none (.mv 23 (.t 21)) <|
     .one none (.tk 5 (.t 23)) <|
     .nil) <|
   .seq (.reg <|
     .one none (.mv 24 (.t 3)) <|
     .one none (.mv 25 (.t 5)) <|
     .one none (.ia 26 1 (.t 24) (.t 25)) <|
     .one none (.mv 28 (.t 4)) <|
     .one none (.mv 29 (.t 5)) <|
     .one none (.ia 30 1 (.t 28) (.t 29)) <|
     .any [
       .one none (.ld 27 none (.t 26)) <|
        .one none (.ld 31 none (.t 30)) <|
        .one none (.ca (some 32) (.c (.clo 32 [] [])) [(false, (.t 27)), (false, (.t 31))]) <|
        .one none (.no 33 .not (.t 32)) <|
        .nil,
       .one none (.ld 31 none (.t 30)) <|
        .one none (.ld 27 none (.t 26)) <|
        .one none (.ca (some 32) (.c (.clo 32 [] [])) [(false, (.t 27)), (false, (.t 31))]) <|
        .one none (.no 33 .not (.t 32)) <|
        .nil]) <|
   .cond (.t 33) (.seq (.reg <|
      .one none (.tk 2 (.c (.bool false))) <|
      .nil) <|
    .ret) <|
   .skip) <|
  .reg <|
   .one none (.bi 34 .add (.t 21) (.c (.int .i64 1))) <|
   .one none (.mv 21 (.t 34)) <|
   .nil) <|
 .seq (.reg <|
   .one none (.ca (some 35) (.c (.clo 16 [] [])) []) <|
   .one none (.tk 2 (.t 35)) <|
   .nil) <|
 .ret⟩
theorem has10 : Has Tryz.prog [] 10 ir10 := has_of Tryz.func10 (by kernel_rfl)
def ir16 : If := ⟨29, [.t 0],
 .seq (.reg <|
   .one none (.tk 0 (.c (.bool false))) <|
   .nil) <|
 .seq (.reg <|
   .one none (.ca (some 4) (.c (.clo 15 [] [])) [(false, (.c (.str [97, 10, 45, 45, 45, 10, 98, 58, 32, 53, 10])))]) <|
   .one none (.mv 3 (.t 4)) <|
   .one none (.ex 5 (.t 3) 0) <|
   .one none (.ex 6 (.t 3) 1) <|
   .one none (.al 2 25 [(.int .i64 0), (.int .i64 0)]) <|
   .one none (.tk 1 (.t 5)) <|
   .one none (.st 2 (.t 2) (.t 6)) <|
   .nil) <|
 .seq (.reg <|
   .one none (.ld 7 (some 2) (.t 2)) <|
   .one none (.bd 8 [(.int .i64 0), (.int .i64 0)] []) <|
   .one none (.eq 9 false [1, 1] (.t 7) (.t 8)) <|
   .one none (.mv 10 (.t 9)) <|
   .one (some (10, true)) (.mv 11 (.t 1)) <|
   .one (some (10, true)) (.ln 12 false (.t 11)) <|
   .one (some (10, true)) (.bi 13 .eql (.t 12) (.c (.int .i64 2))) <|
   .one none (.pk 14 (.t 10) (.t 13) (.c (.bool false))) <|
   .one none (.mv 15 (.t 14)) <|
   .one (some (15, true)) (.mv 16 (.t 1)) <|
   .one (some (15, true)) (.ia 17 4 (.t 16) (.c (.int .i64 0))) <|
   .one (some (15, true)) (.fa 18 1 (.t 17)) <|
   .one (some (15, true)) (.ld 19 none (.t 18)) <|
   .one (some (15, true)) (.bi 20 .eql (.t 19) (.c (.str [97]))) <|
   .one none (.pk 21 (.t 15) (.t 20) (.c (.bool false))) <|
   .one none (.mv 22 (.t 21)) <|
   .one (some (22, true)) (.mv 23 (.t 1)) <|
   .one (some (22, true)) (.ia 24 4 (.t 23) (.c (.int .i64 1))) <|
   .one (some (22, true)) (.fa 25 0 (.t 24)) <|
   .one (some (22, true)) (.ld 26 none (.t 25)) <|
   .one (some (22, true)) (.bi 27 .eql (.t 26) (.c (.int .i64 6))) <|
   .one none (.pk 28 (.t 22) (.t 27) (.c (.bool false))) <|
   .one none (.tk 0 (.t 28)) <|
   .nil) <|
 .ret⟩
theorem has16 : Has Tryz.prog [] 16 ir16 := has_of Tryz.func16 (by kernel_rfl)
def ir17 : If := ⟨53, [.t 4],
 .seq (.reg <|
   .one none (.bx 2 30 4 (.t 0)) <|
   .one none (.bx 3 30 4 (.t 1)) <|
   .one none (.tk 4 (.c (.bool false))) <|
   .nil) <|
 .seq (.seq (.reg <|
    .one none (.fa 6 0 (.t 2)) <|
    .one none (.ld 7 none (.t 6)) <|
    .one none (.fa 8 0 (.t 3)) <|
    .one none (.ld 9 none (.t 8)) <|
    .one none (.bi 10 .neq (.t 7) (.t 9)) <|
    .one none (.mv 11 (.t 10)) <|
    .one (some (11, false)) (.fa 12 1 (.t 2)) <|
    .one (some (11, false)) (.ld 13 none (.t 12)) <|
    .one (some (11, false)) (.fa 14 1 (.t 3)) <|
    .one (some (11, false)) (.ld 15 none (.t 14)) <|
    .one (some (11, false)) (.bi 16 .neq (.t 13) (.t 15)) <|
    .one none (.pk 17 (.t 11) (.c (.bool true)) (.t 16)) <|
    .one none (.mv 18 (.t 17)) <|
    .one (some (18, false)) (.fa 19 2 (.t 2)) <|
    .one (some (18, false)) (.ld 20 none (.t 19)) <|
    .one (some (18, false)) (.fa 21 2 (.t 3)) <|
    .one (some (18, false)) (.ld 22 none (.t 21)) <|
    .one (some (18, false)) (.bi 23 .neq (.t 20) (.t 22)) <|
    .one none (.pk 24 (.t 18) (.c (.bool true)) (.t 23)) <|
    .one none (.mv 25 (.t 24)) <|
    .one (some (25, false)) (.fa 26 3 (.t 2)) <|
    .one (some (25, false)) (.ld 27 none (.t 26)) <|
    .one (some (25, false)) (.ln 28 false (.t 27)) <|
    .one (some (25, false)) (.fa 29 3 (.t 3)) <|
    .one (some (25, false)) (.ld 30 none (.t 29)) <|
    .one (some (25, false)) (.ln 31 false (.t 30)) <|
    .one (some (25, false)) (.bi 32 .neq (.t 28) (.t 31)) <|
    .one none (.pk 33 (.t 25) (.c (.bool true)) (.t 32)) <|
    .nil) <|
  .cond (.t 33) (.seq (.reg <|
     .one none (.tk 4 (.c (.bool false))) <|
     .nil) <|
   .ret) <|
  .skip) <|
 .seq (.seq (.reg <|
    .one none (.tk 5 (.c (.int .i64 0))) <|
    .nil) <|
  .block 0 <|
  .loop <|
  .seq (.seq (.reg <|
     .one none (.mv 34 (.t 5)) <|
     .one none (.fa 35 3 (.t 2)) <|
     .one none (.ld 36 none (.t 35)) <|
     .one none (.ln 37 false (.t 36)) <|
     .one none (.bi 38 .lss (.t 34) (.t 37)) <|
     .nil) <|
   .cond (.t 38) (.skip) <|
   .exit 0) <|
  .seq (.block 1 <|
   .seq (.reg <|
     .one none (.fa 41 3 (.t 2)) <|
     .one none (.mv 43 (.t 5)) <|
     .one none (.fa 46 3 (.t 3)) <|
     .one none (.mv 48 (.t 5)) <|
     .any [
       .one none (.ld 42 none (.t 41)) <|
        .one none (.ia 44 4 (.t 42) (.t 43)) <|
        .any [
          .one none (.ld 45 (some 4) (.t 44)) <|
           .one none (.ld 47 none (.t 46)) <|
           .one none (.ia 49 4 (.t 47) (.t 48)) <|
           .one none (.ld 50 (some 4) (.t 49)) <|
           .one none (.ca (some 51) (.c (.clo 17 [] [])) [(false, (.t 45)), (false, (.t 50))]) <|
           .one none (.no 52 .not (.t 51)) <|
           .nil,
          .one none (.ld 47 none (.t 46)) <|
           .one none (.ia 49 4 (.t 47) (.t 48)) <|
           .any [
             .one none (.ld 45 (some 4) (.t 44)) <|
              .one none (.ld 50 (some 4) (.t 49)) <|
              .one none (.ca (some 51) (.c (.clo 17 [] [])) [(false, (.t 45)), (false, (.t 50))]) <|
              .one none (.no 52 .not (.t 51)) <|
              .nil,
             .one none (.ld 50 (some 4) (.t 49)) <|
              .one none (.ld 45 (some 4) (.t 44)) <|
              .one none (.ca (some 51) (.c (.clo 17 [] [])) [(false, (.t 45)), (false, (.t 50))]) <|
              .one none (.no 52 .not (.t 51)) <|
              .nil]],
       .one none (.ld 47 none (.t 46)) <|
        .one none (.ia 49 4 (.t 47) (.t 48)) <|
        .any [
          .one none (.ld 42 none (.t 41)) <|
           .one none (.ia 44 4 (.t 42) (.t 43)) <|
           .any [
             .one none (.ld 45 (some 4) (.t 44)) <|
              .one none (.ld 50 (some 4) (.t 49)) <|
              .one none (.ca (some 51) (.c (.clo 17 [] [])) [(false, (.t 45)), (false, (.t 50))]) <|
              .one none (.no 52 .not (.t 51)) <|
              .nil,
             .one none (.ld 50 (some 4) (.t 49)) <|
              .one none (.ld 45 (some 4) (.t 44)) <|
              .one none (.ca (some 51) (.c (.clo 17 [] [])) [(false, (.t 45)), (false, (.t 50))]) <|
              .one none (.no 52 .not (.t 51)) <|
              .nil],
          .one none (.ld 50 (some 4) (.t 49)) <|
           .one none (.ld 42 none (.t 41)) <|
           .one none (.ia 44 4 (.t 42) (.t 43)) <|
           .one none (.ld 45 (some 4) (.t 44)) <|
           .one none (.ca (some 51) (.c (.clo 17 [] [])) [(false, (.t 45)), (false, (.t 50))]) <|
           .one none (.no 52 .not (.t 51)) <|
           .nil]]) <|
   .cond (.t 52) (.seq (.reg <|
      .one none (.tk 4 (.c (.bool false))) <|
      .nil) <|
    .ret) <|
   .skip) <|
  .reg <|
   .one none (.mv 39 (.t 5)) <|
   .one none (.bi 40 .add (.t 39) (.c (.int .i64 1))) <|
   .one none (.tk 5 (.t 40)) <|
   .nil) <|
 .seq (.reg <|
   .one none (.tk 4 (.c (.bool true))) <|
   .nil) <|
 .ret⟩
theorem has17 : Has Tryz.prog [] 17 ir17 := has_of Tryz.func17 (by kernel_rfl)
def ir20 : If := ⟨38, [.cell 2 (some 4), .cell 3 (some 2)],
 .seq (.reg <|
   .one none (.al 2 30 [(.int .i64 0), (.str []), (.str []), (.sl true [])]) <|
   .one none (.al 3 25 [(.int .i64 0), (.int .i64 0)]) <|
   .nil) <|
 .seq (.reg <|
   .one none (.al 6 69 [(.int .i64 0), (.int .i64 0)]) <|
   .one none (.tk 4 (.t 6)) <|
   .nil) <|
 .seq (.reg <|
   .one none (.mv 7 (.t 4)) <|
   .one none (.mv 8 (.t 0)) <|
   .one none (.ca (some 9) (.c (.clo 43 [] [])) [(false, (.t 7)), (false, (.t 8)), (false, (.c (.int .i64 0)))]) <|
   .one none (.al 5 30 [(.int .i64 0), (.str []), (.str []), (.sl true [])]) <|
   .one none (.st 4 (.t 5) (.t 9)) <|
   .nil) <|
 .seq (.seq (.reg <|
    .one none (.mv 10 (.t 4)) <|
    .one none (.nc 11 (.t 10)) <|
    .one none (.fa 12 0 (.t 11)) <|
    .one none (.ld 13 (some 2) (.t 12)) <|
    .one none (.bd 14 [(.int .i64 0), (.int .i64 0)] []) <|
    .one none (.eq 15 false [1, 1] (.t 13) (.t 14)) <|
    .one none (.mv 16 (.t 15)) <|
    .one (some (16, true)) (.ld 17 (some 4) (.t 5)) <|
    .one (some (16, true)) (.ca (some 18) (.c (.clo 29 [] [])) [(false, (.t 17))]) <|
    .one (some (16, true)) (.no 19 .not (.t 18)) <|
    .one none (.pk 20 (.t 16) (.t 19) (.c (.bool false))) <|
    .nil) <|
  .cond (.t 20) (.reg <|
    .one none (.mv 21 (.t 4)) <|
    .one none (.bd 22 [(.int .i64 0), (.int .i64 0)] [(0, 1, (.c (.int .i64 5)))]) <|
    .one none (.nc 23 (.t 21)) <|
    .one none (.fa 24 0 (.t 23)) <|
    .one none (.st 2 (.t 24) (.t 22)) <|
    .nil) <|
  .skip) <|
 .seq (.seq (.reg <|
    .one none (.mv 25 (.t 4)) <|
    .one none (.nc 26 (.t 25)) <|
    .one none (.fa 27 0 (.t 26)) <|
    .one none (.ld 28 (some 2) (.t 27)) <|
    .one none (.bd 29 [(.int .i64 0), (.int .i64 0)] []) <|
    .one none (.eq 30 true [1, 1] (.t 28) (.t 29)) <|
    .nil) <|
  .cond (.t 30) (.seq (.reg <|
     .one none (.bd 31 [(.int .i64 0), (.str []), (.str []), (.sl true [])] []) <|
     .one none (.mv 32 (.t 4)) <|
     .one none (.nc 33 (.t 32)) <|
     .one none (.fa 34 0 (.t 33)) <|
     .any [
       .one none (.ld 35 (some 2) (.t 34)) <|
        .one none (.st 4 (.t 2) (.t 31)) <|
        .one none (.st 2 (.t 3) (.t 35)) <|
        .nil,
       .one none (.st 4 (.t 2) (.t 31)) <|
        .one none (.ld 35 (some 2) (.t 34)) <|
        .one none (.st 2 (.t 3) (.t 35)) <|
        .nil]) <|
   .ret) <|
  .skip) <|
 .seq (.reg <|
   .one none (.ld 36 (some 4) (.t 5)) <|
   .one none (.bd 37 [(.int .i64 0), (.int .i64 0)] []) <|
   .one none (.st 4 (.t 2) (.t 36)) <|
   .one none (.st 2 (.t 3) (.t 37)) <|
   .nil) <|
 .ret⟩
theorem has20 : Has Tryz.prog [] 20 ir20 := has_of Tryz.func20 (by kernel_rfl)
def ir22 : If := ⟨32, [.t 2, .t 3, .t 4],
 .seq (.reg <|
   .one none (.tk 2 (.c (.str []))) <|
   .one none (.tk 3 (.c (.int .i64 0))) <|
   .one none (.tk 4 (.c (.bool false))) <|
   .nil) <|
 .seq (.reg <|
   .one none (.mv 9 (.t 0)) <|
   .one none (.ca (some 10) (.c (.clo 46 [] [])) [(false, (.t 9)), (false, (.c (.str [45])))]) <|
   .one none (.mv 8 (.t 10)) <|
   .one none (.ex 11 (.t 8) 0) <|
   .one none (.ex 12 (.t 8) 1) <|
   .one none (.tk 5 (.t 11)) <|
   .one none (.tk 6 (.t 12)) <|
   .nil) <|
 .seq (.seq (.reg <|
    .one none (.mv 13 (.t 6)) <|
    .one none (.no 14 .not (.t 13)) <|
    .one none (.mv 15 (.t 14)) <|
    .one (some (15, false)) (.mv 16 (.t 5)) <|
    .one (some (15, false)) (.bi 17 .neq (.t 16) (.c (.str []))) <|
    .one (some (15, false)) (.mv 18 (.t 17)) <|
    .one (some (18, true)) (.mv 19 (.t 5)) <|
    .one (some (18, true)) (.ix 20 (.t 19) (.c (.int .i64 0))) <|
    .one (some (18, true)) (.bi 21 .neq (.t 20) (.c (.int .u8 32))) <|
    .one (some (15, false)) (.pk 22 (.t 18) (.t 21) (.c (.bool false))) <|
    .one none (.pk 23 (.t 15) (.c (.bool true)) (.t 22)) <|
    .nil) <|
  .cond (.t 23) (.seq (.reg <|
     .one none (.tk 2 (.c (.str []))) <|
     .one none (.tk 3 (.c (.int .i64 0))) <|
     .one none (.tk 4 (.c (.bool false))) <|
     .nil) <|
   .ret) <|
  .skip) <|
 .seq (.reg <|
   .one none (.mv 24 (.t 5)) <|
   .one none (.ca (some 25) (.c (.clo 47 [] [])) [(false, (.t 24)), (false, (.c (.str [32])))]) <|
   .one none (.tk 7 (.t 25)) <|
   .nil) <|
 .seq (.reg <|
   .one none (.mv 26 (.t 7)) <|
   .one none (.mv 27 (.t 0)) <|
   .one none (.ln 28 true (.t 27)) <|
   .one none (.mv 29 (.t 7)) <|
   .one none (.ln 30 true (.t 29)) <|
   .one none (.bi 31 .sub (.t 28) (.t 30)) <|
   .one none (.tk 2 (.t 26)) <|
   .one none (.tk 3 (.t 31)) <|
   .one none (.tk 4 (.c (.bool true))) <|
   .nil) <|
 .ret⟩
theorem has22 : Has Tryz.prog [] 22 ir22 := has_of Tryz.func22 (by kernel_rfl)
def ir24 : If := ⟨48, [.cell 2 (some 4), .t 3, .t 4, .t 5],
 .seq (.reg <|
   .one none (.al 2 30 [(.int .i64 0), (.str []), (.str []), (.sl true [])]) <|
   .one none (.tk 3 (.c (.str []))) <|
   .one none (.tk 4 (.c (.int .i64 0))) <|
   .one none (.tk 5 (.c (.bool false))) <|
   .nil) <|
 .seq (.reg <|
   .one none (.mv 13 (.t 0)) <|
   .one none (.ca (some 14) (.c (.clo 49 [] [])) [(false, (.t 13))]) <|
   .one none (.mv 12 (.t 14)) <|
   .one none (.ex 15 (.t 12) 0) <|
   .one none (.ex 16 (.t 12) 1) <|
   .one none (.ex 17 (.t 12) 2) <|
   .one none (.al 6 30 [(.int .i64 0), (.str []), (.str []), (.sl true [])]) <|
   .one none (.st 4 (.t 6) (.t 15)) <|
   .one none (.tk 7 (.t 16)) <|
   .one none (.tk 8 (.t 17)) <|
   .nil) <|
 .seq (.reg <|
   .one none (.mv 19 (.t 7)) <|
   .one none (.ca (some 20) (.c (.clo 46 [] [])) [(false, (.t 19)), (false, (.c (.str [58])))]) <|
   .one none (.mv 18 (.t 20)) <|
   .one none (.ex 21 (.t 18) 0) <|
   .one none (.ex 22 (.t 18) 1) <|
   .one none (.tk 9 (.t 21)) <|
   .one none (.tk 10 (.t 22)) <|
   .nil) <|
 .seq (.seq (.reg <|
    .one none (.mv 23 (.t 8)) <|
    .one none (.no 24 .not (.t 23)) <|
    .one none (.mv 25 (.t 24)) <|
    .one (some (25, false)) (.mv 26 (.t 10)) <|
    .one (some (25, false)) (.no 27 .not (.t 26)) <|
    .one none (.pk 28 (.t 25) (.c (.bool true)) (.t 27)) <|
    .one none (.mv 29 (.t 28)) <|
    .one (some (29, false)) (.mv 30 (.t 9)) <|
    .one (some (29, false)) (.bi 31 .neq (.t 30) (.c (.str []))) <|
    .one (some (29, false)) (.mv 32 (.t 31)) <|
    .one (some (32, true)) (.mv 33 (.t 9)) <|
    .one (some (32, true)) (.ix 34 (.t 33) (.c (.int .i64 0))) <|
    .one (some (32, true)) (.bi 35 .neq (.t 34) (.c (.int .u8 32))) <|
    .one (some (29, false)) (.pk 36 (.t 32) (.t 35) (.c (.bool false))) <|
    .one none (.pk 37 (.t 29) (.c (.bool true)) (.t 36)) <|
    .nil) <|
  .cond (.t 37) (.seq (.reg <|
     .one none (.bd 38 [(.int .i64 0), (.str []), (.str []), (.sl true [])] []) <|
     .one none (.st 4 (.t 2) (.t 38)) <|
     .one none (.tk 3 (.c (.str []))) <|
     .one none (.tk 4 (.c (.int .i64 0))) <|
     .one none (.tk 5 (.c (.bool false))) <|
     .nil) <|
   .ret) <|
  .skip) <|
 .seq (.reg <|
   .one none (.mv 39 (.t 9)) <|
   .one none (.ca (some 40) (.c (.clo 47 [] [])) [(false, (.t 39)), (false, (.c (.str [32])))]) <|
   .one none (.tk 11 (.t 40)) <|
   .nil) <|
 .seq (.reg <|
   .one none (.ld 41 (some 4) (.t 6)) <|
   .one none (.mv 42 (.t 11)) <|
   .one none (.mv 43 (.t 0)) <|
   .one none (.ln 44 true (.t 43)) <|
   .one none (.mv 45 (.t 11)) <|
   .one none (.ln 46 true (.t 45)) <|
   .one none (.bi 47 .sub (.t 44) (.t 46)) <|
   .one none (.st 4 (.t 2) (.t 41)) <|
   .one none (.tk 3 (.t 42)) <|
   .one none (.tk 4 (.t 47)) <|
   .one none (.tk 5 (.c (.bool true))) <|
   .nil) <|
 .ret⟩
theorem has24 : Has Tryz.prog [] 24 ir24 := has_of Tryz.func24 (by kernel_rfl)
def ir28 : If := ⟨12, [.t 2],
 .seq (.reg <|
   .one none (.bx 1 48 3 (.t 0)) <|
   .one none (.tk 2 (.c (.bool false))) <|
   .nil) <|
 .seq (.reg <|
   .one none (.fa 3 1 (.t 1)) <|
   .one none (.ld 4 none (.t 3)) <|
   .one none (.bi 5 .eql (.t 4) (.c (.str []))) <|
   .one none (.mv 6 (.t 5)) <|
   .one (some (6, false)) (.fa 7 1 (.t 1)) <|
   .one (some (6, false)) (.ld 8 none (.t 7)) <|
   .one (some (6, false)) (.ix 9 (.t 8) (.c (.int .i64 0))) <|
   .one (some (6, false)) (.bi 10 .eql (.t 9) (.c (.int .u8 35))) <|
   .one none (.pk 11 (.t 6) (.c (.bool true)) (.t 10)) <|
   .one none (.tk 2 (.t 11)) <|
   .nil) <|
 .ret⟩
theorem has28 : Has Tryz.prog [] 28 ir28 := has_of Tryz.func28 (by kernel_rfl)
def ir29 : If := ⟨9, [.t 2],
 .seq (.reg <|
   .one none (.bx 1 30 4 (.t 0)) <|
   .one none (.tk 2 (.c (.bool false))) <|
   .nil) <|
 .seq (.reg <|
   .one none (.bd 4 [(.int .i64 0)] [(0, 1, (.c (.int .i64 4096)))]) <|
   .one none (.bx 5 88 1 (.t 4)) <|
   .one none (.tk 3 (.t 5)) <|
   .nil) <|
 .seq (.reg <|
   .one none (.mv 6 (.t 3)) <|
   .one none (.ld 7 (some 4) (.t 1)) <|
   .one none (.ca (some 8) (.c (.clo 57 [] [])) [(false, (.t 6)), (false, (.t 7)), (false, (.c (.int .i64 0)))]) <|
   .one none (.tk 2 (.t 8)) <|
   .nil) <|
 .ret⟩
theorem has29 : Has Tryz.prog [] 29 ir29 := has_of Tryz.func29 (by kernel_rfl)
def ir31 : If := ⟨42, [.t 2],
 .seq (.reg <|
   .one none (.tk 2 (.c (.sl true []))) <|
   .nil) <|
 .seq (.reg <|
   .one none (.tk 3 (.c (.sl true []))) <|
   .nil) <|
 .seq (.reg <|
   .one none (.tk 4 (.c (.int .i64 0))) <|
   .nil) <|
 .seq (.seq (.reg <|
    .one none (.tk 5 (.c (.int .i64 0))) <|
    .nil) <|
  .block 0 <|
  .loop <|
  .seq (.seq (.reg <|
     .one none (.mv 6 (.t 5)) <|
     .one none (.mv 7 (.t 0)) <|
     .one none (.ln 8 false (.t 7)) <|
     .one none (.bi 9 .leq (.t 6) (.t 8)) <|
     .nil) <|
   .cond (.t 9) (.skip) <|
   .exit 0) <|
  .seq (.block 1 <|
   .seq (.seq (.reg <|
      .one none (.mv 12 (.t 5)) <|
      .one none (.mv 13 (.t 0)) <|
      .one none (.ln 14 false (.t 13)) <|
      .one none (.bi 15 .lss (.t 12) (.t 14)) <|
      .one none (.mv 16 (.t 15)) <|
      .one (some (16, true)) (.mv 17 (.t 0)) <|
      .one (some (16, true)) (.mv 18 (.t 5)) <|
      .one (some (16, true)) (.ia 19 3 (.t 17) (.t 18)) <|
      .one (some (16, true)) (.ld 20 (some 3) (.t 19)) <|
      .one (some (16, true)) (.ca (some 21) (.c (.clo 58 [] [])) [(false, (.t 20))]) <|
      .one (some (16, true)) (.no 22 .not (.t 21)) <|
      .one none (.pk 23 (.t 16) (.t 22) (.c (.bool false))) <|
      .nil) <|
    .cond (.t 23) (.exit 1) <|
    .skip) <|
   .seq (.seq (.reg <|
      .one none (.mv 24 (.t 4)) <|
      .one none (.bi 25 .gtr (.t 24) (.c (.int .i64 0))) <|
      .one none (.mv 26 (.t 25)) <|
      .one (some (26, false)) (.mv 27 (.t 0)) <|
      .one (some (26, false)) (.mv 28 (.t 5)) <|
      .one (some (26, false)) (.sc 29 3 (.t 27) none (some (.t 28)) none) <|
      .one (some (26, false)) (.ca (some 30) (.c (.clo 59 [] [])) [(false, (.t 29))]) <|
      .one none (.pk 31 (.t 26) (.c (.bool true)) (.t 30)) <|
      .nil) <|
    .cond (.t 31) (.reg <|
      .one none (.tk 32 (.t 3)) <|
      .one none (.mv 33 (.t 0)) <|
      .one none (.mv 34 (.t 4)) <|
      .one none (.mv 35 (.t 5)) <|
      .one none (.sc 36 3 (.t 33) (some (.t 34)) (some (.t 35)) none) <|
      .one none (.bs 37 33 1 [(.t 36)]) <|
      .one none (.ap 38 33 1 (.t 32) (.t 37)) <|
      .one none (.tk 3 (.t 38)) <|
      .nil) <|
    .skip) <|
   .reg <|
    .one none (.mv 39 (.t 5)) <|
    .one none (.bi 40 .add (.t 39) (.c (.int .i64 1))) <|
    .one none (.tk 4 (.t 40)) <|
    .nil) <|
  .reg <|
   .one none (.mv 10 (.t 5)) <|
   .one none (.bi 11 .add (.t 10) (.c (.int .i64 1))) <|
   .one none (.tk 5 (.t 11)) <|
   .nil) <|
 .seq (.reg <|
   .one none (.mv 41 (.t 3)) <|
   .one none (.tk 2 (.t 41)) <|
   .nil) <|
 .ret⟩
theorem has31 : Has Tryz.prog [] 31 ir31 := has_of Tryz.func31 (by kernel_rfl)
def ir32 : If := ⟨26, [.t 4],
 .seq (.reg <|
   .one none (.tk 4 (.c (.bool false))) <|
   .nil) <|
 .seq (.seq (.reg <|
    .one none (.mv 6 (.t 0)) <|
    .one none (.ln 7 false (.t 6)) <|
    .one none (.mv 8 (.t 1)) <|
    .one none (.ln 9 false (.t 8)) <|
    .one none (.bi 10 .neq (.t 7) (.t 9)) <|
    .nil) <|
  .cond (.t 10) (.seq (.reg <|
     .one none (.tk 4 (.c (.bool false))) <|
     .nil) <|
   .ret) <|
  .skip) <|
 .seq (.seq (.reg <|
    .one none (.tk 5 (.c (.int .i64 0))) <|
    .nil) <|
  .block 0 <|
  .loop <|
  .seq (.seq (.reg <|
     .one none (.mv 11 (.t 5)) <|
     .one none (.mv 12 (.t 0)) <|
     .one none (.ln 13 false (.t 12)) <|
     .one none (.bi 14 .lss (.t 11) (.t 13)) <|
     .nil) <|
   .cond (.t 14) (.skip) <|
   .exit 0) <|
  .seq (.block 1 <|
   .seq (.reg <|
     .one none (.mv 17 (.t 0)) <|
     .one none (.mv 18 (.t 5)) <|
     .one none (.ia 19 3 (.t 17) (.t 18)) <|
     .one none (.mv 21 (.t 1)) <|
     .one none (.mv 22 (.t 5)) <|
     .one none (.ia 23 3 (.t 21) (.t 22)) <|
     .any [
       .one none (.ld 20 (some 3) (.t 19)) <|
        .one none (.ld 24 (some 3) (.t 23)) <|
        .one none (.eq 25 true [1, 2, 1] (.t 20) (.t 24)) <|
        .nil,
       .one none (.ld 24 (some 3) (.t 23)) <|
        .one none (.ld 20 (some 3) (.t 19)) <|
        .one none (.eq 25 true [1, 2, 1] (.t 20) (.t 24)) <|
        .nil]) <|
   .cond (.t 25) (.seq (.reg <|
      .one none (.tk 4 (.c (.bool false))) <|
      .nil) <|
    .ret) <|
   .skip) <|
  .reg <|
   .one none (.mv 15 (.t 5)) <|
   .one none (.bi 16 .add (.t 15) (.c (.int .i64 1))) <|
   .one none (.tk 5 (.t 16)) <|
   .nil) <|
 .seq (.reg <|
   .one none (.tk 4 (.c (.bool true))) <|
   .nil) <|
 .ret⟩
theorem has32 : Has Tryz.prog [] 32 ir32 := has_of Tryz.func32 (by kernel_rfl)
end Gx
