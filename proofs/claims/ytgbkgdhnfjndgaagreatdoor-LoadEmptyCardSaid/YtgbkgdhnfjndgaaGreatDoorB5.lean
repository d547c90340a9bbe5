import Derived.Test.YtgbkgdhnfjndgaaGreatDoorB4
import Derived.Below
import Derived.OrdersIn
import Derived.RangeFuncWrites
/- A part of the proof: a calculus of values over the model, and the functions that the statement reaches, each once, in that calculus. -/
set_option linter.all false
set_option linter.unusedSimpArgs false
set_option linter.unusedVariables false

/- Part Gx22. -/
/- Code and functions run on values. -/
namespace Gx
open Go

/-- What a function is: its small code, or a rule of its own. -/
inductive Dn where
  | code (ir : If)
  | prim (p : List Pv → Bx → Option (Pv × Bx))
inductive BT where
  | nil
  | node (f : Nat) (d : Dn) (l r : BT)
def BT.find : BT → Nat → Option Dn
  | .nil, _ => none
  | .node g d l r, f => if f = g then some d else if f < g then l.find f else r.find f

def DnOk (P : Program) (G : Nat → Option Obj) (f : Nat) : Dn → Prop
  | .code ir => Has P [] f ir
  | .prim p => ∀ args s r s', p args s = some (r, s') → ARet P G f args (toSt s) r (toSt s')
def BT.Ok (P : Program) (G : Nat → Option Obj) : BT → Prop
  | .nil => True
  | .node f d l r => DnOk P G f d ∧ l.Ok P G ∧ r.Ok P G
theorem BT.find_ok {P : Program} {G : Nat → Option Obj} : ∀ {t : BT}, t.Ok P G → ∀ {f d}, t.find f = some d → DnOk P G f d
  | .nil, _, f, d, h => by cases h
  | .node g e l r, hT, f, d, h => by
    simp only [BT.find] at h
    split at h
    · rename_i hf; subst hf; cases h; exact hT.1
    · split at h
      · exact BT.find_ok hT.2.1 h
      · exact BT.find_ok hT.2.2 h

inductive Rz where
  | no
  | ok (e : Ex) (ρ : List Pv) (s : Bx)
abbrev Rn := List Pv → Bx → Rz

def oksB (s : Bx) (vs : List Pv) : Bool := vs.all (argOkB s)
theorem oksB_of {s : Bx} : ∀ {vs : List Pv}, oksB s vs = true → oksArg (toSt s) vs
  | [], _ => trivial
  | v :: vs, h => by
    simp only [oksB, List.all_cons, Bool.and_eq_true] at h
    exact ⟨argOkB_of h.1, oksB_of h.2⟩

/-- Boxes that the result does not lead to are dropped. -/
def dropK (n : Nat) (r : Pv) (s : Bx) : Option (Pv × Bx) :=
  if s.length = n then some (r, s)
  else if (clean n r && ((s.take n).all fun b => cleanL n b.1)) = true then takeK s n fun s => some (r, s)
  else some (r, s)

def finE (res : List Rv) (n : Nat) (ρ : List Pv) (s : Bx) : Option (Pv × Bx) :=
  match res with
  | [.t k] => match toEnv ρ k with
    | .sl true xs => dropK n (.sl true xs) s
    | v => if argOkB s v = true then f1 (v.arg (toSt s)) fun r => shutbK s v fun s => dropK n r s else none
  | res => if oksB s (resArgs (toEnv ρ) res) = true then match retvs (toEnv ρ) (toSt s) res with
      | some vs => f1s vs fun vs => shutbsK s (resArgs (toEnv ρ) res) fun s => dropK n (one? vs) s
      | none => none
    else none

def sameZ : Rz → Rz → Bool
  | .ok .nx ρ s, .ok .nx ρ' s' => eqbs ρ ρ' && bxEq s s'
  | _, _ => false
def anyE : List Rz → Rz
  | [] => .no
  | r :: rs => if (rs.all fun y => sameZ r y) = true then r else .no

noncomputable def evG (call : CallE) (g : Option (Nat × Bool)) (o : Ao) (ρ : List Pv) (s : Bx) : Option (List Pv × Bx) :=
  match g with
  | none => evF o call ρ s
  | some (t, b) => match lk ρ t with
    | .bool c => if c = b then evF o call ρ s else match o.dst with
      | some d => setK ρ d .un fun ρ => some (ρ, s)
      | none => some (ρ, s)
    | .un => match o.dst with
      | some d => setK ρ d .un fun ρ => some (ρ, s)
      | none => some (ρ, s)
    | _ => none

def thenE (r : Option (List Pv × Bx)) (k : Rn) : Rz := match r with
  | some (ρ, s) => k ρ s
  | none => .no
noncomputable def evT (call : CallE) (t : It) : Rn :=
  It.rec (motive_1 := fun _ => Rn) (motive_2 := fun _ => List Pv → Bx → List Rz)
    (fun ρ s => .ok .nx ρ s)
    (fun g o _ ih ρ s => thenE (evG call g o ρ s) ih)
    (fun _ ih ρ s => anyE (ih ρ s))
    (fun _ _ => [])
    (fun _ _ ih1 ih2 ρ s => ih1 ρ s :: ih2 ρ s) t
noncomputable def evTs (call : CallE) (ts : List It) : List Pv → Bx → List Rz :=
  It.rec_1 (motive_1 := fun _ => Rn) (motive_2 := fun _ => List Pv → Bx → List Rz)
    (fun ρ s => .ok .nx ρ s)
    (fun g o _ ih ρ s => thenE (evG call g o ρ s) ih)
    (fun _ ih ρ s => anyE (ih ρ s))
    (fun _ _ => [])
    (fun _ _ ih1 ih2 ρ s => ih1 ρ s :: ih2 ρ s) ts

def seqE (r : Rz) (k : Rn) : Rz := match r with
  | .ok .nx ρ s => k ρ s
  | r => r
def condE (c : Pv) (a b : Rn) (ρ : List Pv) (s : Bx) : Rz := match c with
  | .bool true => a ρ s
  | .bool false => b ρ s
  | _ => .no
def blkE (id : Nat) (r : Rz) : Rz := match r with
  | .ok (.ex i) ρ s => if i = id then .ok .nx ρ s else .ok (.ex i) ρ s
  | r => r
noncomputable def loopE (b : Rn) (k : Nat) : Rn :=
  Nat.rec (motive := fun _ => Rn) (fun _ _ => .no) (fun _ ih ρ s => seqE (b ρ s) ih) k
noncomputable def evC (call : CallE) (lf : Nat) (c : Ic) : Rn :=
  Ic.rec (motive := fun _ => Rn)
    (fun ρ s => .ok .nx ρ s)
    (fun t => evT call t)
    (fun _ _ iha ihb ρ s => seqE (iha ρ s) ihb)
    (fun c _ _ iha ihb ρ s => condE (oE c ρ) iha ihb ρ s)
    (fun id _ ih ρ s => blkE id (ih ρ s))
    (fun _ ih => loopE ih lf)
    (fun id ρ s => .ok (.ex id) ρ s)
    (fun ρ s => .ok .rt ρ s)
    (fun _ _ => .no) c

def retE (res : List Rv) (n : Nat) (r : Rz) : Option (Pv × Bx) := match r with
  | .ok (.ex _) _ _ => none
  | .ok .nx ρ s1 => finE res n ρ s1
  | .ok .rt ρ s1 => finE res n ρ s1
  | .no => none
noncomputable def callD (t : BT) (lf : Nat) (call : CallE) (f : FuncId) (args : List Pv) (s : Bx) : Option (Pv × Bx) :=
  match t.find f with
  | none => none
  | some (.prim p) => p args s
  | some (.code ir) => if args.length ≤ ir.nt then retE ir.res s.length (evC call lf ir.body args s) else none
/-- A call, with so many calls in one another. -/
noncomputable def callE (t : BT) (lf : Nat) (n : Nat) : CallE :=
  Nat.rec (motive := fun _ => CallE) (fun _ _ _ => none) (fun _ ih => callD t lf ih) n

theorem retv_eqs {ρ : Env} {σ : St} {n : Nat} : retvs ρ σ [.t n] = some [(ρ n).arg σ] := rfl

theorem dropK_keep {σ0 : St} {n : Nat} {r r' : Pv} {s s' : Bx} (h : dropK n r s = some (r', s')) (hn : σ0.n = n) : r' = r ∧ Keep σ0 (toSt s) (toSt s') r := by
  unfold dropK at h
  split at h
  · rename_i e; simp only [Option.some.injEq, Prod.mk.injEq] at h; obtain ⟨rfl, rfl⟩ := h; exact ⟨rfl, Keep.refl _ _ _⟩
  · split at h
    · rename_i e hb
      simp only [takeK_eq, Option.some.injEq, Prod.mk.injEq] at h
      obtain ⟨rfl, rfl⟩ := h
      simp only [Bool.and_eq_true] at hb
      refine ⟨rfl, ?_, ?_, ?_⟩
      · simp only [toSt, List.length_take]; omega
      · intro b hb'
        simp only [toSt, List.length_take] at hb'
        have : b < n := by omega
        simp [toSt, List.getElem?_take, this]
      · by_cases hl : n ≤ s.length
        · refine .inr ⟨by simp only [toSt, List.length_take]; omega, ?_, fun b hb' => .inr ?_⟩
          · have : (toSt (s.take n)).n = n := by simp only [toSt, List.length_take]; omega
            rw [this]; exact hb.1
          · have hn2 : (toSt (s.take n)).n = n := by simp only [toSt, List.length_take]; omega
            rw [hn2] at hb' ⊢
            have hlt : b < s.length := by omega
            have := List.all_eq_true.1 hb.2 s[b] (by
              rw [List.mem_take_iff_getElem]
              exact ⟨b, by omega, by simp⟩)
            simpa [toSt, hlt] using this
        · refine .inl ?_
          simp only [toSt, List.length_take]; omega
    · simp only [Option.some.injEq, Prod.mk.injEq] at h; obtain ⟨rfl, rfl⟩ := h; exact ⟨rfl, Keep.refl _ _ _⟩

theorem finE_fin {res : List Rv} {s0 s s' : Bx} {ρ : List Pv} {r : Pv} (h : finE res s0.length ρ s = some (r, s')) : Fin res (toSt s0) r (toSt s') (toEnv ρ) (toSt s) := by
  have hgen : ∀ res : List Rv, (if oksB s (resArgs (toEnv ρ) res) = true then match retvs (toEnv ρ) (toSt s) res with
      | some vs => f1s vs fun vs => shutbsK s (resArgs (toEnv ρ) res) fun s => dropK s0.length (one? vs) s
      | none => none
    else none) = some (r, s') → Fin res (toSt s0) r (toSt s') (toEnv ρ) (toSt s) := by
    intro res h
    split at h
    · rename_i hok
      split at h
      · rename_i vs hv
        rw [f1s_eq] at h
        obtain ⟨s1, q1, q2⟩ := shutbsK_eq (resArgs (toEnv ρ) res) s (fun s => dropK s0.length (one? vs) s) fun v hv => List.all_eq_true.1 hok v hv
        rw [q1] at h
        obtain ⟨e, hk⟩ := dropK_keep (σ0 := toSt s0) h rfl
        subst e
        rw [q2] at hk
        exact .inr ⟨oksB_of hok, vs, hv, rfl, hk⟩
      · cases h
    · cases h
  unfold finE at h
  split at h
  · rename_i k
    split at h
    · rename_i xs e
      obtain ⟨rfl, hk⟩ := dropK_keep (σ0 := toSt s0) h rfl
      exact .inl ⟨k, xs, rfl, e, rfl, hk⟩
    · refine hgen [.t k] ?_
      split at h
      · rename_i hok
        simp only [oksB, resArgs, List.all_cons, List.all_nil, Bool.and_true, hok, if_true, retv_eqs, f1s_eq, shutbsK, one?]
        rw [f1_eq] at h
        exact h
      · cases h
  · exact hgen _ h

theorem evG_snd {C : Crel} {call : CallE} (hc : ∀ f args s r s', call f args s = some (r, s') → C f args (toSt s) r (toSt s')) {g : Option (Nat × Bool)} {o : Ao} {ρ ρ' : List Pv} {s s' : Bx} {K : Env → St → Prop}
    (h : evG call g o ρ s = some (ρ', s')) (hK : K (toEnv ρ') (toSt s')) : gwp C g o K (toEnv ρ) (toSt s) := by
  have hput : (match o.dst with
      | some d => setK ρ d .un fun ρ => some (ρ, s)
      | none => some (ρ, s)) = some (ρ', s') → K (optPut (toEnv ρ) o.dst .un) (toSt s) := by
    intro h
    cases hd : o.dst with
    | some d =>
      simp only [hd, setK_eq, Option.some.injEq, Prod.mk.injEq] at h
      obtain ⟨rfl, rfl⟩ := h
      rw [toEnv_set] at hK; exact hK
    | none =>
      simp only [hd, Option.some.injEq, Prod.mk.injEq] at h
      obtain ⟨rfl, rfl⟩ := h
      exact hK
  cases g with
  | none => exact evO_snd hc (by rw [← evF_eq]; exact h) hK
  | some tb =>
    obtain ⟨t, b⟩ := tb
    simp only [evG, lk_eq, evF_eq] at h
    simp only [gwp]
    split at h
    · rename_i c e
      rw [e]
      simp only
      split at h
      · rename_i hcb; rw [if_pos hcb]; exact evO_snd hc h hK
      · rename_i hcb; rw [if_neg hcb]; exact hput h
    · rename_i e; rw [e]; exact hput h
    · cases h

variable {P : Program} {G : Nat → Option Obj}

def CallSnd (P : Program) (G : Nat → Option Obj) (call : CallE) : Prop := ∀ f args s r s', call f args s = some (r, s') → ARet P G f args (toSt s) r (toSt s')

mutual
theorem evT_snd {call : CallE} (hc : CallSnd P G call) : ∀ (t : It) (ρ : List Pv) (s : Bx) (e : Ex) (ρ' : List Pv) (s' : Bx), evT call t ρ s = .ok e ρ' s' → e = .nx ∧ ∀ K : Env → St → Prop, K (toEnv ρ') (toSt s') → t.wp (ARet P G) K (toEnv ρ) (toSt s)
  | .nil, ρ, s, e, ρ', s', h => by
    simp only [evT, Rz.ok.injEq] at h
    obtain ⟨rfl, rfl, rfl⟩ := h
    exact ⟨rfl, fun K hK => by rw [it_nil]; exact hK⟩
  | .one g o t, ρ, s, e, ρ', s', h => by
    change thenE (evG call g o ρ s) (evT call t) = _ at h
    unfold thenE at h
    split at h
    · rename_i ρ1 s1 ho
      obtain ⟨h1, h2⟩ := evT_snd hc t _ _ _ _ _ h
      refine ⟨h1, fun K hK => ?_⟩
      rw [It.wp]
      exact evG_snd hc ho (h2 K hK)
    · cases h
  | .any [], ρ, s, e, ρ', s', h => by
    change anyE [] = _ at h
    cases h
  | .any (t1 :: ts), ρ, s, e, ρ', s', h => by
    change anyE (evT call t1 ρ s :: evTs call ts ρ s) = _ at h
    simp only [anyE] at h
    split at h
    · rename_i hall
      obtain ⟨he, h1⟩ := evT_snd hc t1 _ _ _ _ _ h
      subst he
      refine ⟨rfl, fun K hK => ?_⟩
      rw [it_any, it_any1]
      refine ⟨h1 K hK, evTs_snd hc ts ρ s ρ' s' (fun r hr => ?_) K hK⟩
      have h2 := List.all_eq_true.1 hall r hr
      rw [h] at h2
      unfold sameZ at h2
      split at h2
      · rename_i ρ2 s2 ρ3 s3 e1
        simp only [Rz.ok.injEq, true_and] at e1
        obtain ⟨rfl, rfl⟩ := e1
        simp only [Bool.and_eq_true] at h2
        rw [eqbs_eq _ _ h2.1, bxEq_eq _ _ h2.2]
      · cases h2
    · cases h
theorem evTs_snd {call : CallE} (hc : CallSnd P G call) : ∀ (ts : List It) (ρ : List Pv) (s : Bx) (ρ' : List Pv) (s' : Bx), (∀ r ∈ evTs call ts ρ s, r = Rz.ok .nx ρ' s') → ∀ K : Env → St → Prop, K (toEnv ρ') (toSt s') → wpAll (ARet P G) ts K (toEnv ρ) (toSt s)
  | [], ρ, s, ρ', s', h, K, hK => by rw [it_any0]; trivial
  | t :: ts, ρ, s, ρ', s', h, K, hK => by
    rw [it_any1]
    have h' : ∀ r ∈ evT call t ρ s :: evTs call ts ρ s, r = Rz.ok .nx ρ' s' := h
    exact ⟨(evT_snd hc t _ _ _ _ _ (h' _ (by simp))).2 K hK, evTs_snd hc ts ρ s ρ' s' (fun r hr => h' r (by simp [hr])) K hK⟩
end

theorem evC_snd {call : CallE} (hc : CallSnd P G call) (lf nt : Nat) : ∀ (c : Ic) (ρ : List Pv) (s : Bx) (e : Ex) (ρ' : List Pv) (s' : Bx), evC call lf c ρ s = .ok e ρ' s' → ∀ Q : Post, Q e (toEnv ρ') (toSt s') → c.wp (ARet P G) (Loops P G [] nt) Q (toEnv ρ) (toSt s)
  | .skip, ρ, s, e, ρ', s', h, Q, hQ => by
    simp only [evC, Rz.ok.injEq] at h
    obtain ⟨rfl, rfl, rfl⟩ := h
    rw [c_skip]; exact hQ
  | .reg t, ρ, s, e, ρ', s', h, Q, hQ => by
    rw [c_reg]
    obtain ⟨rfl, h2⟩ := evT_snd hc t _ _ _ _ _ h
    exact h2 _ hQ
  | .seq a b, ρ, s, e, ρ', s', h, Q, hQ => by
    rw [c_seq]
    change seqE (evC call lf a ρ s) (evC call lf b) = _ at h
    unfold seqE at h
    split at h
    · rename_i ρ1 s1 ha
      exact evC_snd hc lf nt a _ _ _ _ _ ha _ (evC_snd hc lf nt b _ _ _ _ _ h Q hQ)
    · rename_i hne
      refine evC_snd hc lf nt a _ _ _ _ _ h _ ?_
      cases e with
      | nx => exact absurd h (hne _ _)
      | ex i => exact hQ
      | rt => exact hQ
  | .cond c a b, ρ, s, e, ρ', s', h, Q, hQ => by
    rw [c_cond]
    change condE (oE c ρ) (evC call lf a) (evC call lf b) ρ s = _ at h
    rw [oE_eq] at h
    unfold condE at h
    split at h
    · rename_i ec; rw [ec, bw_true]; exact evC_snd hc lf nt a _ _ _ _ _ h Q hQ
    · rename_i ec; rw [ec, bw_false]; exact evC_snd hc lf nt b _ _ _ _ _ h Q hQ
    · cases h
  | .block id b, ρ, s, e, ρ', s', h, Q, hQ => by
    rw [c_block]
    change blkE id (evC call lf b ρ s) = _ at h
    unfold blkE at h
    split at h
    · rename_i i ρ1 s1 hb
      refine evC_snd hc lf nt b _ _ _ _ _ hb _ ?_
      rw [q_blk]
      split at h
      · rename_i hi
        simp only [Rz.ok.injEq] at h
        obtain ⟨rfl, rfl, rfl⟩ := h
        rw [if_pos hi]; exact hQ
      · rename_i hi
        simp only [Rz.ok.injEq] at h
        obtain ⟨rfl, rfl, rfl⟩ := h
        rw [if_neg hi]; exact hQ
    · rename_i hne
      refine evC_snd hc lf nt b _ _ _ _ _ h _ ?_
      cases e with
      | nx => exact hQ
      | ex i => exact absurd h (hne _ _ _)
      | rt => exact hQ
  | .loop b, ρ, s, e, ρ', s', h, Q, hQ => by
    rw [c_loop]
    have step : ∀ m ρ s, loopE (evC call lf b) (m + 1) ρ s = seqE (evC call lf b ρ s) (loopE (evC call lf b) m) := fun m ρ s => rfl
    refine loop_rule (P := P) (G := G) (nt := nt) (ow := []) (b := b) (Q := Q) (fun m ρ1 σ1 => ∃ ρl sl e1 ρ2 s2, ρ1 = toEnv ρl ∧ σ1 = toSt sl ∧ loopE (evC call lf b) m ρl sl = .ok e1 ρ2 s2 ∧ Q e1 (toEnv ρ2) (toSt s2)) ?_ (n := lf)
      ⟨ρ, s, e, ρ', s', rfl, rfl, h, hQ⟩
    rintro m ρ1 σ1 ⟨ρl, sl, e1, ρ2, s2, rfl, rfl, hrun, hQ1⟩
    cases m with
    | zero => cases hrun
    | succ m =>
      rw [step] at hrun
      unfold seqE at hrun
      split at hrun
      · rename_i ρ3 s3 hb
        exact evC_snd hc lf nt b _ _ _ _ _ hb _ ⟨m, by omega, ρ3, s3, e1, ρ2, s2, rfl, rfl, hrun, hQ1⟩
      · rename_i hne
        refine evC_snd hc lf nt b _ _ _ _ _ hrun _ ?_
        cases e1 with
        | nx => exact absurd hrun (hne _ _)
        | ex i => exact hQ1
        | rt => exact hQ1
  | .exit id, ρ, s, e, ρ', s', h, Q, hQ => by
    simp only [evC, Rz.ok.injEq] at h
    obtain ⟨rfl, rfl, rfl⟩ := h
    rw [c_exit]; exact hQ
  | .ret, ρ, s, e, ρ', s', h, Q, hQ => by
    simp only [evC, Rz.ok.injEq] at h
    obtain ⟨rfl, rfl, rfl⟩ := h
    rw [c_ret]; exact hQ
  | .bad, ρ, s, e, ρ', s', h, Q, hQ => by cases h

theorem callD_snd {t : BT} (hT : t.Ok P G) {call : CallE} (hc : CallSnd P G call) (lf : Nat) : CallSnd P G (callD t lf call) := by
  intro f args s r s' h
  unfold callD at h
  split at h
  · cases h
  · rename_i p hf
    exact BT.find_ok hT hf _ _ _ _ h
  · rename_i ir hf
    have hHas : Has P [] f ir := BT.find_ok hT hf
    split at h
    · rename_i hle
      refine ret_of hHas hle ?_
      unfold retE at h
      split at h
      · cases h
      · rename_i ρ s1 hrun
        exact evC_snd hc lf _ _ _ _ _ _ _ hrun _ (finE_fin h)
      · rename_i ρ s1 hrun
        exact evC_snd hc lf _ _ _ _ _ _ _ hrun _ (finE_fin h)
      · cases h
    · cases h
theorem callE_snd {t : BT} (hT : t.Ok P G) (lf : Nat) : ∀ n, CallSnd P G (callE t lf n)
  | 0 => fun f args s r s' h => by cases h
  | n + 1 => callD_snd hT (callE_snd hT lf n) lf

/-- A function run on values is what its contract says. -/
theorem aret_run {t : BT} (hT : t.Ok P G) (lf n : Nat) {f : FuncId} {args : List Pv} {s s' : Bx} {r : Pv} (h : callE t lf n f args s = some (r, s')) : ARet P G f args (toSt s) r (toSt s') :=
  callE_snd hT lf n f args s r s' h
end Gx

/- Part Gx23. -/
/- Loops over a function: the iterator's code, with the loop's body behind each yield. -/
namespace Gx
open Go hiding sizeOf

variable {P : Program} {G : Nat → Option Obj} {nt : Nat}

/-- The fence that bars nothing, in a round or in none. -/
def Fx (ro : Option Nat) : Fence := { Fence.wide with round := ro }

theorem opIn {ro : Option Nat} {o : Oper} {a : Act} {w : World} {K : Act → World → Prop} {Q : Exit → Act → World → Prop} (hsem : o.semAt ro a.eval = execOp a.eval o) (h : o.wp P a w K Q) : o.wpIn (Fx ro) 0 P a w K Q := by
  unfold Oper.wp at h
  unfold Oper.wpIn
  refine ⟨fun _ _ => trivial, ?_⟩
  show o.uponIn (Fx ro) 0 P a K Q ((o.semAt ro a.eval).run P w)
  rw [hsem]
  generalize (execOp a.eval o).run P w = r at h
  cases r with
  | ok nx w' =>
    cases nx with
    | value v => exact h
    | skip => exact h
    | defer d => exact h
    | enter f args => exact ⟨fun hd => (by simp [Fx, Fence.wide] at hd), show CallsIn Fence.wide _ _ _ _ _ _ from callsIn_wide.2 h⟩
    | row row args => exact ⟨fun hd => (by simp [Fx, Fence.wide] at hd), fun c cs _ => let ⟨v, w'', r, s⟩ := h c cs; ⟨v, w'', r, stepsIn_wide.2 s⟩⟩
    | _ => exact h.elim
  | halt s w' => cases s <;> exact h

theorem wpOp_in {ro : Option Nat} {ops : Array Oper} {Q : Exit → Act → World → Prop} (hQ : ¬ LetsOut Q) {i : Nat} {K : Act → World → Prop} {a : Act} {w : World} (hsem : ∀ o, ops[i]? = some o → o.semAt ro a.eval = execOp a.eval o)
    (h : wpOp P ops Q i K a w) : wpOpIn (Fx ro) 0 P ops Q i K a w := by
  unfold wpOp at h
  unfold wpOpIn
  cases ho : ops[i]? with
  | none => rw [ho] at h; exact h
  | some o =>
    rw [ho] at h
    simp only at h ⊢
    split
    · rename_i hw
      rw [if_pos hw] at h
      rcases h with h | ⟨_, h⟩
      · exact opIn (hsem o ho) h
      · exact absurd h hQ
    · rename_i hw
      rw [if_neg hw] at h
      exact ⟨fun _ _ => trivial, h⟩

def noDefer (ops : Array Oper) : Bool := ops.toList.all fun o => match o.op with
  | .defer _ => false
  | _ => true
theorem noDefer_sem {ops : Array Oper} (h : noDefer ops = true) (ro : Option Nat) (ρ : Operand → Value) (i : Nat) (o : Oper) (ho : ops[i]? = some o) : o.semAt ro ρ = execOp ρ o := by
  refine Oper.semAt_eq ro ρ o fun c hc => ?_
  have := List.all_eq_true.1 h o (by rw [Array.mem_toList_iff]; exact Array.mem_of_getElem? ho)
  rw [hc] at this
  cases this

theorem wpOps_in {ro : Option Nat} {ops : Array Oper} (hnd : ro = none ∨ noDefer ops = true) {Q : Exit → Act → World → Prop} (hQ : ¬ LetsOut Q) : ∀ (is : List Nat) (a : Act) (w : World), wpOps P ops Q is a w → wpOpsIn (Fx ro) 0 P ops Q is a w
  | [], a, w, h => h
  | i :: is, a, w, h => by
    rw [wpOps_cons] at h
    rw [wpOpsIn_cons]
    refine wpOpIn_mono (fun a w => wpOps_in hnd hQ is a w) (wpOp_in hQ (fun o ho => ?_) h)
    rcases hnd with rfl | hnd
    · rfl
    · exact noDefer_sem hnd ro _ i o ho
theorem wpAny_in {ro : Option Nat} {ops : Array Oper} (hnd : ro = none ∨ noDefer ops = true) {Q : Exit → Act → World → Prop} (hQ : ¬ LetsOut Q) : ∀ (n : Nat) (listed : Array Bool) (a : Act) (w : World), wpAny P .any ops Q n listed a w → wpAnyIn (Fx ro) 0 P .any ops Q n listed a w
  | 0, listed, a, w, h => h
  | n + 1, listed, a, w, h => by
    refine ⟨h.1, fun i hi => wpOpIn_mono (fun a w => wpAny_in hnd hQ n _ a w) (wpOp_in hQ (fun o ho => ?_) (h.2 i hi))⟩
    rcases hnd with rfl | hnd
    · rfl
    · exact noDefer_sem hnd ro _ i o ho

theorem postQ_out {F : Nat → Prop} {g0 : Gh} {w0 : World} {ds : List Deferred} {Q : Post} : ¬ LetsOut (PostQ nt F g0 w0 ds Q) := fun ⟨_, _, h⟩ => h

/-- Code without a defer statement. -/
def Code.nd : Code → Bool
  | .region _ ops _ => noDefer ops
  | .seq a b | .cond _ a b | .rangeFunc _ _ a b => Code.nd a && Code.nd b
  | .block _ c | .loop c | .scope c => Code.nd c
  | _ => true

/-- No loop. -/
def NoL : Ic → Post → Env → St → Prop := fun _ _ _ _ => False

/-- The body of a round: code without loops. -/
theorem cCodeR_snd {l : Nat} {ow : Ow} : ∀ (c : Code) (ic : Ic), cCode P ow nt c = some ic → Code.nd c = true → ∀ (Q : Post) (ρ : Env) (σ : St), ic.wp (ARet P G) NoL Q ρ σ → ∀ (F : Nat → Prop) (g0 : Gh) (w0 : World) (ds : List Deferred) (a : Act) (w : World), GL G g0 w0 →
    At nt F g0 w0 ds ρ σ a w → c.wpIn (Fx (some l)) 0 P (PostQ nt F g0 w0 ds Q) a w
  | .skip, ic, h, _, Q, ρ, σ, hw, F, g0, w0, ds, a, w, hG, hA => by
    simp only [cCode, Option.some.injEq] at h; subst h
    exact wpIn_skip ⟨ρ, σ, hA, hw⟩
  | .region id ops false, ic, h, hnd, Q, ρ, σ, hw, F, g0, w0, ds, a, w, hG, hA => by
    simp only [cCode] at h
    split at h
    · rename_i t ht
      cases h
      exact wpIn_region (wpOps_in (.inr hnd) postQ_out _ _ _ (cOps_snd ops _ t ht (Q .nx) ρ σ a w F g0 w0 ds hG hA hw _ fun a' w' h => h))
    · cases h; simp only [Ic.wp] at hw
  | .region id ops true, ic, h, hnd, Q, ρ, σ, hw, F, g0, w0, ds, a, w, hG, hA => by
    simp only [cCode] at h
    split at h
    · rename_i hc
      simp only [Bool.and_eq_true] at hc
      split at h
      · rename_i t ht
        cases h
        obtain ⟨g, own, hI, hE, hF, hn, hds⟩ := hA
        exact wpIn_region_any hc.1 (wpAny_in (.inr hnd) postQ_out _ _ _ _ (cAny_snd ops hc.2 _ _ t ht (Q .nx) ρ σ a w.drew F g0 w0 ds hG ⟨g, own, hI.drew, hE.trans Ext.drew, hF.trans fun _ _ => ⟨rfl, rfl⟩, hn, hds⟩ hw _ (fun a' w' h => h) fun c a w h => h))
      · cases h; simp only [Ic.wp] at hw
    · cases h; simp only [Ic.wp] at hw
  | .seq x y, ic, h, hnd, Q, ρ, σ, hw, F, g0, w0, ds, a, w, hG, hA => by
    simp only [Code.nd, Bool.and_eq_true] at hnd
    simp only [cCode] at h
    split at h
    · rename_i x' y' h1 h2
      cases h
      simp only [Ic.wp] at hw
      refine wpIn_seq (wpIn_mono (cCodeR_snd x x' h1 hnd.1 _ ρ σ hw F g0 w0 ds a w hG hA) fun e a' w' hq => ?_)
      cases e with
      | normal =>
        obtain ⟨ρ', σ', hA', hK⟩ := hq
        exact cCodeR_snd y y' h2 hnd.2 Q ρ' σ' hK F g0 w0 ds a' w' hG hA'
      | exit id => exact hq
      | ret => exact hq
      | goto l => exact hq
      | panic c => exact hq
      | outgrown => exact hq
    · cases h
  | .cond c x y, ic, h, hnd, Q, ρ, σ, hw, F, g0, w0, ds, a, w, hG, hA => by
    simp only [Code.nd, Bool.and_eq_true] at hnd
    simp only [cCode] at h
    split at h
    · rename_i c' x' y' h0 h1 h2
      cases h
      simp only [Ic.wp] at hw
      split at hw
      · rename_i t ht
        have hA' := hA
        obtain ⟨g, own, hI, hE, hF, hn, hds⟩ := hA
        have hr := od_plain hI hn h0 (by rw [ht]; simp)
        rw [ht] at hr
        exact wpIn_cond_split hr.bool_inv (fun e => cCodeR_snd x x' h1 hnd.1 Q ρ σ (hw.1 e) F g0 w0 ds a w hG hA') fun e => cCodeR_snd y y' h2 hnd.2 Q ρ σ (hw.2 e) F g0 w0 ds a w hG hA'
      · exact hw.elim
    · cases h; simp only [Ic.wp] at hw
  | .block id b, ic, h, hnd, Q, ρ, σ, hw, F, g0, w0, ds, a, w, hG, hA => by
    simp only [cCode, Option.map_eq_some_iff] at h
    obtain ⟨b', h1, rfl⟩ := h
    simp only [Ic.wp] at hw
    refine wpIn_block (wpIn_mono (cCodeR_snd b b' h1 hnd _ ρ σ hw F g0 w0 ds a w hG hA) fun e a' w' hq => ?_)
    cases e with
    | exit i =>
      simp only [PostQ, Post.blk, Exit.inBlock] at hq ⊢
      split
      · rename_i hi; simp only [hi, if_true] at hq; exact hq
      · rename_i hi; simp only [hi, if_false] at hq; exact hq
    | normal => exact hq
    | ret => exact hq
    | goto l => exact hq
    | panic c => exact hq
    | outgrown => exact hq
  | .loop b, ic, h, _, Q, ρ, σ, hw, F, g0, w0, ds, a, w, hG, hA => by
    simp only [cCode, Option.map_eq_some_iff] at h
    obtain ⟨b', h1, rfl⟩ := h
    simp only [Ic.wp, NoL] at hw
  | .exit id, ic, h, _, Q, ρ, σ, hw, F, g0, w0, ds, a, w, hG, hA => by
    simp only [cCode, Option.some.injEq] at h; subst h
    exact wpIn_exit ⟨ρ, σ, hA, hw⟩
  | .ret, ic, h, _, Q, ρ, σ, hw, F, g0, w0, ds, a, w, hG, hA => by
    simp only [cCode, Option.some.injEq] at h; subst h
    exact wpIn_ret ⟨ρ, σ, hA, hw⟩
  | .rangeFunc .., ic, h, _, _, _, _, hw, _, _, _, _, _, _, _, _ => by
    simp only [cCode, Option.some.injEq] at h; subst h; simp only [Ic.wp] at hw
  | .scope _, ic, h, _, _, _, _, hw, _, _, _, _, _, _, _, _ => by
    simp only [cCode, Option.some.injEq] at h; subst h; simp only [Ic.wp] at hw
  | .label _, ic, h, _, _, _, _, hw, _, _, _, _, _, _, _, _ => by
    simp only [cCode, Option.some.injEq] at h; subst h; simp only [Ic.wp] at hw
  | .goto _, ic, h, _, _, _, _, hw, _, _, _, _, _, _, _, _ => by
    simp only [cCode, Option.some.injEq] at h; subst h; simp only [Ic.wp] at hw
  | .refuse _, ic, h, _, _, _, _, hw, _, _, _, _, _, _, _, _ => by
    simp only [cCode, Option.some.injEq] at h; subst h; simp only [Ic.wp] at hw
end Gx

/- Part Gx24. -/
/- The iterator's code: each yield is a call of a kind of its own. -/
namespace Gx
open Go hiding sizeOf

variable {P : Program} {G : Nat → Option Obj} {nt : Nat}

theorem ob_mono {α : Type} {v : Option α} {k k' : α → Prop} (h : ob v k) (hk : ∀ x, k x → k' x) : ob v k' := by
  cases v with
  | none => exact h
  | some x => exact hk x h
theorem shutbs_k : ∀ (vs : List Pv) (σ : St), (σ.shutbs vs).k = σ.k
  | [], σ => rfl
  | v :: vs, σ => by
    have h : (σ.shutb v).k = σ.k := by cases v <;> rfl
    exact (shutbs_k vs (σ.shutb v)).trans h

/-- An operation that is no call: whatever the calls do. -/
theorem opKm {C C' : Crel} {o : Ao} (hno : ∀ d f asq, o ≠ .ca d f asq) {K K' : Env → St → Prop} {ρ : Env} {σ : St} (h : o.wp C K ρ σ) (hk : ∀ ρ' σ', σ'.k = σ.k → K ρ' σ' → K' ρ' σ') : o.wp C' K' ρ σ := by
  cases o with
  | mv d x => exact hk _ _ rfl h
  | tk d x => cases x <;> exact hk _ _ rfl h
  | pk d c a b =>
    rw [o_pk] at h ⊢
    unfold bw at h ⊢
    split at h
    · exact ⟨fun e => hk _ _ rfl (h.1 e), fun e => hk _ _ rfl (h.2 e)⟩
    · exact h
  | al d ty z => exact hk _ _ rfl h
  | bx d ty n x => exact ⟨h.1, hk _ _ rfl h.2⟩
  | bd d z ps => rw [o_bd] at h ⊢; exact ob_mono h fun x hx => hk _ _ rfl hx
  | bs d ty sz ps => exact ⟨h.1, hk _ _ rfl h.2⟩
  | ld d ag x => rw [o_ld] at h ⊢; exact ob_mono h fun x hx => hk _ _ rfl hx
  | lt d x =>
    rw [o_lt] at h ⊢
    unfold ltw at h ⊢
    split at h
    · exact ob_mono h fun x hx => ⟨hx.1, hk _ _ rfl hx.2⟩
    · exact h
  | st n x v =>
    cases v with
    | t s =>
      rw [o_st_t] at h ⊢
      unfold stw at h ⊢
      split at h
      · exact ⟨h.1, h.2.1, h.2.2.1, h.2.2.2.1, hk _ _ rfl h.2.2.2.2⟩
      · exact h
    | c u =>
      rw [o_st_c] at h ⊢
      unfold stw at h ⊢
      split at h
      · exact ⟨h.1, h.2.1, h.2.2.1, h.2.2.2.1, hk _ _ rfl h.2.2.2.2⟩
      · exact h
  | nc d x => rw [o_nc] at h ⊢; exact ob_mono h fun x hx => hk _ _ rfl hx
  | bi d op x y => rw [o_bi] at h ⊢; exact ob_mono h fun x hx => hk _ _ rfl hx
  | bq d i neg x y => rw [o_bq] at h ⊢; exact ob_mono h fun x hx => hk _ _ rfl hx
  | eq d neg ks x y => rw [o_eq] at h ⊢; exact ob_mono h fun x hx => hk _ _ rfl hx
  | no d op x => rw [o_no] at h ⊢; exact ob_mono h fun x hx => hk _ _ rfl hx
  | cv d k x => rw [o_cv] at h ⊢; exact ob_mono h fun x hx => hk _ _ rfl hx
  | mf d f a b => exact hk _ _ rfl h
  | ms d ty z bytes x y =>
    rw [o_ms] at h ⊢
    unfold msw at h ⊢
    split at h
    · exact ⟨h.1, h.2.1, h.2.2.1, hk _ _ rfl h.2.2.2⟩
    · exact h
  | sc d sz x lo hi mx =>
    cases mx with
    | none =>
      rw [o_sc] at h ⊢
      unfold scw at h ⊢
      split at h
      · exact ob_mono h fun x hx => hk _ _ rfl hx
      · exact ⟨h.1, ob_mono h.2 fun x hx => hk _ _ rfl hx⟩
      · exact ob_mono h fun x hx => hk _ _ rfl hx
      · exact h
    | some m =>
      exfalso
      simp only [Ao.wp, Option.isNone_some] at h
      split at h <;> simp at h
  | fa d off x => rw [o_fa] at h ⊢; exact ob_mono h fun x hx => hk _ _ rfl hx
  | fi d off ag x => rw [o_fi] at h ⊢; exact ob_mono h fun x hx => hk _ _ rfl hx
  | ia d sz x i =>
    rw [o_ia] at h ⊢
    unfold iaw at h ⊢
    split at h
    · exact ob_mono h fun x hx => ⟨hx.1, hx.2.1, hk _ _ rfl hx.2.2⟩
    · exact ⟨h.1, h.2.1, h.2.2.1, hk _ _ rfl h.2.2.2⟩
    · exact h
  | ix d x i => rw [o_ix] at h ⊢; exact ob_mono h fun x hx => hk _ _ rfl hx
  | ex d x i => rw [o_ex] at h ⊢; exact ob_mono h fun x hx => hk _ _ rfl hx
  | ca d f asq => exact absurd rfl (hno d f asq)
  | ap d ty sz a x =>
    cases a with
    | t n =>
      rw [o_ap] at h ⊢
      unfold apw at h ⊢
      split at h
      · exact ⟨h.1, h.2.1, h.2.2.1, h.2.2.2.1, hk _ _ rfl h.2.2.2.2⟩
      · exact ⟨h.1, h.2.1, h.2.2.1, h.2.2.2.1, hk _ _ rfl h.2.2.2.2⟩
      · exact h
    | c v =>
      have hv : v = .sl true [] := by
        cases v with
        | sl own xs =>
          cases own with
          | false => exact h.elim
          | true => cases xs with
            | nil => rfl
            | cons y ys => exact h.elim
        | _ => exact h.elim
      subst hv
      rw [o_ap0] at h ⊢
      unfold ap0 at h ⊢
      split at h
      · exact ⟨h.1, h.2.1, hk _ _ rfl h.2.2⟩
      · exact ⟨h.1, h.2.1, hk _ _ rfl h.2.2⟩
      · exact h
  | ln d b x =>
    rw [o_ln] at h ⊢
    unfold lnw at h ⊢
    split at h
    · exact ⟨h.1, fun e => hk _ _ rfl (h.2 e)⟩
    · exact ⟨h.1, fun e => hk _ _ rfl (h.2 e)⟩
    · exact ⟨h.1, fun e => hk _ _ rfl (h.2 e)⟩
    · exact h
  | mm d mx x y => rw [o_mm] at h ⊢; exact ob_mono h fun x hx => hk _ _ rfl hx
  | bad d => exact h

theorem gwpKm {C C' : Crel} {g : Option (Nat × Bool)} {o : Ao} {K K' : Env → St → Prop} {ρ : Env} {σ : St} (ho : ∀ K K' : Env → St → Prop, o.wp C K ρ σ → (∀ ρ' σ', σ'.k = σ.k → K ρ' σ' → K' ρ' σ') → o.wp C' K' ρ σ)
    (h : gwp C g o K ρ σ) (hk : ∀ ρ' σ', σ'.k = σ.k → K ρ' σ' → K' ρ' σ') : gwp C' g o K' ρ σ := by
  cases g with
  | none => exact ho _ _ h hk
  | some tb =>
    obtain ⟨t, b⟩ := tb
    simp only [gwp] at h ⊢
    split at h
    · split at h
      · rename_i e; rw [if_pos e]; exact ho _ _ h hk
      · rename_i e; rw [if_neg e]; exact hk _ _ rfl h
    · exact hk _ _ rfl h
    · exact h

/-- Operations without a call. -/
def It.noCa : It → Bool
  | .nil => true
  | .one _ o t => (match o with
    | .ca .. => false
    | _ => true) && It.noCa t
  | .any ts => noCas ts
where noCas : List It → Bool
  | [] => true
  | t :: ts => It.noCa t && noCas ts

mutual
theorem itKm {C C' : Crel} : ∀ (t : It), t.noCa = true → ∀ {K K' : Env → St → Prop} {ρ : Env} {σ : St}, t.wp C K ρ σ → (∀ ρ' σ', σ'.k = σ.k → K ρ' σ' → K' ρ' σ') → t.wp C' K' ρ σ
  | .nil, _, K, K', ρ, σ, h, hk => by rw [it_nil] at h ⊢; exact hk _ _ rfl h
  | .one g o t, hn, K, K', ρ, σ, h, hk => by
    simp only [It.noCa, Bool.and_eq_true] at hn
    rw [It.wp] at h ⊢
    refine gwpKm (fun K K' h hk => opKm (fun d f asq e => ?_) h hk) h fun ρ' σ' e h' => itKm t hn.2 h' fun ρ'' σ'' e' h'' => hk _ _ (e'.trans e) h''
    subst e
    cases hn.1
  | .any ts, hn, K, K', ρ, σ, h, hk => by
    simp only [It.noCa] at hn
    rw [it_any] at h ⊢
    exact itsKm ts hn h hk
theorem itsKm {C C' : Crel} : ∀ (ts : List It), It.noCa.noCas ts = true → ∀ {K K' : Env → St → Prop} {ρ : Env} {σ : St}, wpAll C ts K ρ σ → (∀ ρ' σ', σ'.k = σ.k → K ρ' σ' → K' ρ' σ') → wpAll C' ts K' ρ σ
  | [], _, K, K', ρ, σ, h, hk => by rw [it_any0]; trivial
  | t :: ts, hn, K, K', ρ, σ, h, hk => by
    simp only [It.noCa.noCas, Bool.and_eq_true] at hn
    rw [it_any1] at h ⊢
    exact ⟨itKm t hn.1 h.1 hk, itsKm ts hn.2 h.2 hk⟩
end

/-- The calls of an iterator's code: a yield, or any other. -/
def CY (P : Program) (G : Nat → Option Obj) (l : Nat) (Y : List Pv → St → Pv → St → Prop) : Crel := fun f args σ r σ' =>
  (ynum ≤ f ∧ f = ynum + l ∧ Y args σ r σ') ∨ (f < ynum ∧ ARet P G f args σ r σ' ∧ σ'.k = σ.k)
theorem cy_of {l : Nat} {Y : List Pv → St → Pv → St → Prop} {f : FuncId} {args : List Pv} {σ σ' : St} {r : Pv} (h : ARet P G f args σ r σ') (hk : σ'.k = σ.k) : CY P G l Y f args σ r σ' := .inr ⟨h.1.1, h, hk⟩
theorem cy_yield {l : Nat} {Y : List Pv → St → Pv → St → Prop} {args : List Pv} {σ σ' : St} {r : Pv} (h : Y args σ r σ') : CY P G l Y (ynum + l) args σ r σ' := .inl ⟨Nat.le_add_right _ _, rfl, h⟩

/-- What a yield does, whatever the world. -/
def YOk (P : Program) (G : Nat → Option Obj) (l : Nat) (rec : Nat → Obj) (F : Nat → Prop) (Y : List Pv → St → Pv → St → Prop) (H : Gh → World → Prop) : Prop :=
  ∀ args σ r σ', Y args σ r σ' → ∀ (g : Gh) (w : World) (vs : Array Value) (own : Pl → Option Nat) (F' : Nat → Prop), GL G g w → H g w → vs.size = args.length → Inv g w σ (fun t => args.getD t .un) vs own F' → (∀ x, F x ∨ x = l → F' x) → g.z l = some 0 →
    w.heap[l]? = some (rec σ.k) → YieldAt Fence.wide 0 P l vs w fun e w' => ∃ v, e = .returned v ∧ ∃ g' own', Inv g' w' σ' (fun _ => r) #[v] own' F' ∧ Ext g w g' w' ∧ (∀ x, F' x → x ≠ l → w'.heap[x]? = w.heap[x]? ∧ g'.z x = g.z x) ∧ g'.z l = some 0 ∧ w'.heap[l]? = some (rec σ'.k)

/-- The iterator's frame. -/
def AtY (nt l : Nat) (rec : Nat → Obj) (F : Nat → Prop) (g0 : Gh) (w0 : World) (ds : List Deferred) (ρ : Env) (σ : St) (a : Act) (w : World) : Prop :=
  ∃ g own, Inv g w σ ρ a.tmps own (fun x => F x ∨ x = l) ∧ Ext g0 w0 g w ∧ Fr F g0 w0 g w ∧ a.tmps.size = nt ∧ a.defers = ds ∧ g.z l = some 0 ∧ w.heap[l]? = some (rec σ.k)
def AtYK (nt l : Nat) (rec : Nat → Obj) (F : Nat → Prop) (g0 : Gh) (w0 : World) (ds : List Deferred) (K : Env → St → Prop) (a : Act) (w : World) : Prop := ∃ ρ σ, AtY nt l rec F g0 w0 ds ρ σ a w ∧ K ρ σ

theorem AtY.of_at {l : Nat} {rec : Nat → Obj} {F : Nat → Prop} {g0 g : Gh} {w0 w : World} {ds : List Deferred} {σ0 : St} {K : Env → St → Prop} {a' : Act} {w' : World} (hFl : ¬ F l) (hz : g.z l = some 0) (hl : w.heap[l]? = some (rec σ0.k))
    (hE : Ext g0 w0 g w) (hF : Fr F g0 w0 g w) (h : AtK nt (fun x => F x ∨ x = l) g w ds (fun ρ σ => K ρ σ ∧ σ.k = σ0.k) a' w') : AtYK nt l rec F g0 w0 ds K a' w' := by
  obtain ⟨ρ', σ', ⟨g', own', hI, hE', hF', hn, hds⟩, hK, hk⟩ := h
  refine ⟨ρ', σ', ⟨g', own', hI, hE.trans hE', hF.trans fun x hx => hF' x (.inl hx), hn, hds, ?_, ?_⟩, hK⟩
  · rw [(hF' l (.inr rfl)).2]; exact hz
  · rw [(hF' l (.inr rfl)).1, hl, hk]
end Gx

/- Part Gx25. -/
namespace Gx
open Go hiding sizeOf
variable {P : Program} {G : Nat → Option Obj} {nt : Nat}

set_option maxHeartbeats 4000000 in
theorem ca_inv {ow : Ow} {ops : Array Oper} {o : Oper} {d : Option Nat} {g : Od} {bs : List (Bool × Od)} (h : cOp P ow nt ops o = some (.ca d g bs)) :
    ∃ c f, o.op = .call c ∧ c.callee = .value f ∧ (∀ d, o.dst = some d → d < nt) ∧ odOf nt f = some g ∧ bs.length = c.args.toList.length ∧
      (∀ (i : Nat) b y x, bs[i]? = some (b, y) → c.args.toList[i]? = some x → odOf nt x = some y) ∧ (bs.filter (·.1)).length ≤ 1 ∧ d = o.dst := by
  have h0 : cOp0 P ow nt ops o = some (.ca d g bs) := by
    unfold cOp at h
    split at h
    · rename_i a ha; cases h; exact ha
    · cases h
  clear h
  unfold cOp0 at h0
  simp only [Option.bind_eq_bind, Option.pure_def] at h0
  cases hop : o.op
  case call c =>
    rw [hop] at h0
    simp only at h0
    cases hcal : c.callee with
    | value f =>
      rw [hcal] at h0
      simp only at h0
      obtain ⟨g', hg, h0⟩ := bind_some h0
      obtain ⟨asq, has, h0⟩ := bind_some h0
      obtain ⟨b1, b2⟩ := callArgs_ok (ow := ow) (f := f) has
      generalize callArgs ow f asq = bs' at h0 b1 b2
      split at h0
      · rename_i hc
        cases hdd : o.dst with
        | some d' =>
          rw [hdd] at h0
          simp only at h0
          split at h0
          · rename_i hlt
            cases h0
            exact ⟨c, f, rfl, hcal, (fun d' hd' => by cases hd'; exact hlt), hg, b1, b2, hc, rfl⟩
          · cases h0
        | none =>
          rw [hdd] at h0
          cases h0
          exact ⟨c, f, rfl, hcal, (fun d' hd' => by cases hd'), hg, b1, b2, hc, rfl⟩
      · cases h0
    | invoke r m => rw [hcal] at h0; simp at h0
    | builtin b =>
      exfalso
      rw [hcal] at h0
      cases b
      all_goals (simp only at h0)
      all_goals (repeat' (first | (with_reducible cases h0; done) | (split at h0) | (replace h0 := bind_some h0; obtain ⟨_, _, h0⟩ := h0)))
  all_goals (exfalso; rw [hop] at h0; simp only at h0)
  all_goals (repeat' (first | (with_reducible cases h0; done) | (split at h0) | (replace h0 := bind_some h0; obtain ⟨_, _, h0⟩ := h0)))
/-- A yield, asq the iterator's machine does it. -/
theorem yield_op {l : Nat} {rec : Nat → Obj} {F : Nat → Prop} {Y : List Pv → St → Pv → St → Prop} {H : Gh → World → Prop} (hY : YOk P G l rec F Y H) (hH : ∀ {g w g' w'}, H g w → Ext g w g' w' → H g' w')
    {o : Oper} {c : Call} {f : Operand} {f' : Od} {asq : List (Bool × Od)} (ho : o.op = .call c) (hb : c.callee = .value f) (hd : ∀ d, o.dst = some d → d < nt) (hf : odOf nt f = some f') (hl : asq.length = c.args.toList.length)
    (has : ∀ (i : Nat) b y x, asq[i]? = some (b, y) → c.args.toList[i]? = some x → odOf nt x = some y) (h1c : (asq.filter (·.1)).length ≤ 1) {K : Env → St → Prop} {ρ : Env} {σ : St} {a : Act} {w : World} {g : Gh} {own : Pl → Option Nat} (hn : a.tmps.size = nt)
    (hG : GL G g w) (hHg : H g w) (h : Inv g w σ ρ a.tmps own (fun x => F x ∨ x = l)) (hz : g.z l = some 0) (hr : w.heap[l]? = some (rec σ.k)) {k : FuncId} {fs cs : List Pv} (hfe : f'.ev ρ = .clo k fs cs) (hk : ynum ≤ k)
    (hw : (Ao.ca o.dst f' asq).wp (CY P G l Y) K ρ σ) (Q : Exit → Act → World → Prop) :
    o.wpIn (Fx none) 0 P a w (fun a' w' => ∃ ρ' σ' g' own', Inv g' w' σ' ρ' a'.tmps own' (fun x => F x ∨ x = l) ∧ Ext g w g' w' ∧ (∀ x, F x → x ≠ l → w'.heap[x]? = w.heap[x]? ∧ g'.z x = g.z x) ∧ K ρ' σ' ∧ a'.tmps.size = nt ∧ a'.defers = a.defers ∧ g'.z l = some 0 ∧ w'.heap[l]? = some (rec σ'.k)) Q := by
  simp only [Ao.wp, hfe] at hw
  obtain ⟨hok, r, σ', hC, hK⟩ := hw
  rcases hC with ⟨_, rfl, hYr⟩ | ⟨hlt, _⟩
  case inr => exact absurd hlt (Nat.not_lt.2 hk)
  have hrf := od_plain h hn hf (by rw [hfe]; simp)
  rw [hfe] at hrf
  have hv : a.eval f = .func (.yield l) #[] #[] ∧ fs = [] ∧ cs = [] := by
    generalize a.eval f = v at hrf
    generalize hq : ynum + l = q at hrf
    cases hrf with
    | yld l' =>
      have : l' = l := by omega
      subst this
      exact ⟨rfl, rfl, rfl⟩
    | clo _ _ _ us vs hfl hcl r1 r2 hlt => exact absurd (hq ▸ hlt) (Nat.not_lt.2 (Nat.le_add_right _ _))
  obtain ⟨hv, rfl, rfl⟩ := hv
  obtain ⟨g1, ownC, FC, hE1, hF1, hvsz, hInvC, hFC, hback⟩ := ca_gen (nt := nt) (w := w) (us := #[]) (vs := #[]) o c hd hl has h1c hn h (fs := []) (cs := []) rfl rfl (fun i x v hx _ => by simp at hx) (fun i x v hx _ => by simp at hx) hok r σ' (fun x => x = l) (fun x hx => .inr hx)
  obtain ⟨fn, tmps, assign, body, hy, hR⟩ := hY _ _ _ _ hYr g1 w _ ownC FC (hG.mono hE1) (hH hHg hE1) hvsz hInvC hFC (by rw [(hF1 l (.inr rfl)).2]; exact hz) (by rw [shutbs_k]; exact hr)
  unfold Oper.wpIn
  refine ⟨fun _ _ => trivial, ?_⟩
  show o.uponIn (Fx none) 0 P a _ Q ((execOp a.eval o).run P w)
  have hrun : (execOp a.eval o).run P w = .ok (.round l fn tmps assign body) w := by
    have hy' : (Instr.yield l (c.args.map a.eval)).run P w = .ok (.round l fn tmps assign body) w := by simpa using hy
    simp [execOp, ho, resolve, hb, hv, Deferred.ofValue, invoke, hy']
  rw [hrun]
  refine ⟨fun hd => (by simp [Fx, Fence.wide] at hd), ?_⟩
  refine RoundIn.mono (show RoundIn (Fx none) (0 - 1) P l fn tmps assign body w _ from hR) fun e w' hpost => ?_
  obtain ⟨v, rfl, g2, own2, hI2, hE2, hF2, hz2, hr2⟩ := hpost
  obtain ⟨ρ', g', own', q1, q2, q3, q4, q5, q6, rfl⟩ := hback v w' g2 own2 hI2 hE2 hF2 K hK
  exact ⟨ρ', σ', g', own', q1, q2, fun x hx hne => q3 x (.inl hx) hne, q4, q5, q6, hz2, hr2⟩
end Gx

/- Part Gx26. -/
/- The iterator's code, sound. -/
namespace Gx
open Go hiding sizeOf
variable {P : Program} {G : Nat → Option Obj} {nt : Nat}

/-- A call that is no yield. -/
theorem opY {l : Nat} {Y : List Pv → St → Pv → St → Prop} {o : Ao} {K : Env → St → Prop} {ρ : Env} {σ : St} (hno : ¬ ∃ d f asq k x y, o = .ca d f asq ∧ f.ev ρ = .clo k x y ∧ ynum ≤ k) (h : o.wp (CY P G l Y) K ρ σ) :
    o.wp (ARet P G) (fun ρ' σ' => K ρ' σ' ∧ σ'.k = σ.k) ρ σ := by
  by_cases hc : ∃ d f asq, o = .ca d f asq
  · obtain ⟨d, f, asq, rfl⟩ := hc
    simp only [Ao.wp] at h ⊢
    split at h
    · rename_i k x y he
      obtain ⟨h1, r, σ', hC, hK⟩ := h
      rcases hC with ⟨hk, _⟩ | ⟨_, hA, hk⟩
      · exact absurd ⟨d, f, asq, k, x, y, rfl, he, hk⟩ hno
      · exact ⟨h1, r, σ', hA, hK, by rw [hk, shutbs_k]⟩
    · exact h
  · exact opKm (fun d f asq e => hc ⟨d, f, asq, e⟩) h fun ρ' σ' e hK => ⟨hK, e⟩

section
variable {l : Nat} {rec : Nat → Obj} {F : Nat → Prop} {Y : List Pv → St → Pv → St → Prop} {H : Gh → World → Prop} (hY : YOk P G l rec F Y H) (hH : ∀ {g w g' w'}, H g w → Ext g w g' w' → H g' w') (hFl : ¬ F l)
include hY hH hFl

theorem gopY {ow : Ow} {ops : Array Oper} {i : Nat} {o : Oper} (hi : ops[i]? = some o) {gd : Option (Nat × Bool)} (hg : gOf ops nt o = some gd) {ao : Ao} (ha : cOp P ow nt ops o = some ao) (hd : ao.dst = o.dst) {K : Env → St → Prop} {ρ : Env} {σ : St} {a : Act}
    {w w0 : World} {g0 : Gh} {ds : List Deferred} (hG : GL G g0 w0) (hH0 : H g0 w0) (hA : AtY nt l rec F g0 w0 ds ρ σ a w) (hw : gwp (CY P G l Y) gd ao K ρ σ) (Q : Exit → Act → World → Prop) (hQ : ¬ LetsOut Q) :
    wpOpIn (Fx none) 0 P ops Q i (AtYK nt l rec F g0 w0 ds K) a w := by
  obtain ⟨g, own, hI, hE, hF, hn, hds, hz, hl⟩ := hA
  have hgw := guard_wanted hg hI hn
  have skip : Region.wanted o (yielded ops a.tmps) = false → K (optPut ρ ao.dst .un) σ → wpOpIn (Fx none) 0 P ops Q i (AtYK nt l rec F g0 w0 ds K) a w := by
    intro hwn hK
    unfold wpOpIn
    simp only [hi, hwn, Bool.false_eq_true, if_false]
    refine ⟨fun _ _ => trivial, ?_⟩
    rw [hd] at hK
    cases hdd : o.dst with
    | none =>
      rw [hdd] at hK
      exact ⟨_, _, ⟨g, own, hI, hE, hF, hn, hds, hz, hl⟩, hK⟩
    | some d =>
      rw [hdd] at hK
      exact ⟨_, _, ⟨g, _, hI.put d .un, hE, hF, by simp [Act.put, hn], hds, hz, hl⟩, hK⟩
  have run : Region.wanted o (yielded ops a.tmps) = true → ao.wp (CY P G l Y) K ρ σ → wpOpIn (Fx none) 0 P ops Q i (AtYK nt l rec F g0 w0 ds K) a w := by
    intro hwn hK
    unfold wpOpIn
    simp only [hi, hwn, if_true]
    by_cases hy : ∃ d f asq k x y, ao = .ca d f asq ∧ f.ev ρ = .clo k x y ∧ ynum ≤ k
    · obtain ⟨d, f', asq, k, x, y, rfl, he, hk⟩ := hy
      obtain ⟨c, f, e1, e2, e3, e4, e5, e6, e7, rfl⟩ := ca_inv ha
      refine Oper.wpIn_mono (fun a' w' hp => ?_) (yield_op hY hH e1 e2 e3 e4 e5 e6 e7 hn (hG.mono hE) (hH hH0 hE) hI hz hl he hk hK Q)
      obtain ⟨ρ', σ', g', own', q1, q2, q3, q4, q5, q6, q7, q8⟩ := hp
      exact ⟨ρ', σ', ⟨g', own', q1, hE.trans q2, hF.trans fun x hx => q3 x hx (fun e => hFl (e ▸ hx)), q5, q6.trans hds, q7, q8⟩, q4⟩
    · have h1 := (cOp_snd (G := G) ow ops o ao ha).2 _ ρ σ a hn g w own _ (hG.mono hE) hI (opY hy hK) Q
      refine Oper.wpIn_mono (fun a' w' hL => ?_) (opIn (ro := none) rfl h1)
      obtain ⟨ρ', σ', g', own', hI', hE', hF', ⟨hK', hk'⟩, hn', hds'⟩ := hL
      refine ⟨ρ', σ', ⟨g', own', hI', hE.trans hE', hF.trans fun x hx => hF' x (.inl hx), hn', hds'.trans hds, ?_, ?_⟩, hK'⟩
      · rw [(hF' l (.inr rfl)).2]; exact hz
      · rw [(hF' l (.inr rfl)).1, hl, hk']
  cases gd with
  | none => exact run hgw hw
  | some p =>
    obtain ⟨d, b⟩ := p
    simp only [gwp] at hw
    split at hw
    · rename_i c hc
      have hwn := hgw.1 c hc
      split at hw
      · rename_i hcb
        exact run (by rw [hwn, hcb]; simp) hw
      · rename_i hcb
        exact skip (by rw [hwn]; simpa using hcb) hw
    · rename_i hc
      exact skip (hgw.2 hc) hw
    · exact hw.elim

theorem cOpsY {ow : Ow} (ops : Array Oper) : ∀ (is : List Nat) (t : It), cOps P ow nt ops is = some t → ∀ (K : Env → St → Prop) (ρ : Env) (σ : St) (a : Act) (w : World) (g0 : Gh) (w0 : World) (ds : List Deferred), GL G g0 w0 → H g0 w0 →
    AtY nt l rec F g0 w0 ds ρ σ a w → t.wp (CY P G l Y) K ρ σ → ∀ Q : Exit → Act → World → Prop, ¬ LetsOut Q → (∀ a' w', AtYK nt l rec F g0 w0 ds K a' w' → Q .normal a' w') → wpOpsIn (Fx none) 0 P ops Q is a w
  | [], t, h, K, ρ, σ, a, w, g0, w0, ds, hG, hH0, hA, hw, Q, hQo, hQ => by
    simp only [cOps, Option.some.injEq] at h
    subst h
    exact hQ a w ⟨ρ, σ, hA, by rwa [it_nil] at hw⟩
  | i :: is, t, h, K, ρ, σ, a, w, g0, w0, ds, hG, hH0, hA, hw, Q, hQo, hQ => by
    simp only [cOps] at h
    cases hi : ops[i]? with
    | none => rw [hi] at h; cases h
    | some o =>
      rw [hi] at h
      simp only at h
      split at h
      · rename_i gd ao t' h1 h2 h3
        split at h
        · rename_i hd
          cases h
          rw [wpOpsIn_cons]
          refine wpOpIn_mono (fun a' w' hL => ?_) (gopY hY hH hFl (ow := ow) hi h1 h2 hd hG hH0 hA (by simpa only [It.wp] using hw) Q hQo)
          obtain ⟨ρ', σ', hA', hK'⟩ := hL
          exact cOpsY ops is t' h3 K ρ' σ' a' w' g0 w0 ds hG hH0 hA' hK' Q hQo hQ
        · cases h
      · cases h
end

def PostY (nt l : Nat) (rec : Nat → Obj) (F : Nat → Prop) (g0 : Gh) (w0 : World) (ds : List Deferred) (Q : Post) : Exit → Act → World → Prop
  | .normal, a, w => AtYK nt l rec F g0 w0 ds (Q .nx) a w
  | .exit id, a, w => AtYK nt l rec F g0 w0 ds (Q (.ex id)) a w
  | .ret, a, w => AtYK nt l rec F g0 w0 ds (Q .rt) a w
  | _, _, _ => False
theorem postY_out {l : Nat} {rec : Nat → Obj} {F : Nat → Prop} {g0 : Gh} {w0 : World} {ds : List Deferred} {Q : Post} : ¬ LetsOut (PostY nt l rec F g0 w0 ds Q) := fun ⟨_, _, h⟩ => h

/-- What a loop of the iterator does. -/
def LoopsY (P : Program) (G : Nat → Option Obj) (nt l : Nat) (rec : Nat → Obj) (F : Nat → Prop) (H : Gh → World → Prop) (b : Ic) (Q : Post) (ρ : Env) (σ : St) : Prop :=
  ∀ c, cCode P [] nt c = some b → ∀ (g0 : Gh) (w0 : World) (ds : List Deferred) (a : Act) (w : World), GL G g0 w0 → H g0 w0 → AtY nt l rec F g0 w0 ds ρ σ a w → Code.okY P nt c = true → (Code.loop c).wpIn (Fx none) 0 P (PostY nt l rec F g0 w0 ds Q) a w
where
  /-- Regions that draw their order have no call. -/
  Code.okY (P : Program) (nt : Nat) : Code → Bool
  | .region _ ops true => match cAny P [] nt ops ops.size (Array.replicate ops.size false) with
    | some t => t.noCa
    | none => true
  | .seq a b | .cond _ a b => Code.okY P nt a && Code.okY P nt b
  | .block _ c | .loop c => Code.okY P nt c
  | _ => true
abbrev okY := LoopsY.Code.okY

section
variable {l : Nat} {rec : Nat → Obj} {F : Nat → Prop} {Y : List Pv → St → Pv → St → Prop} {H : Gh → World → Prop} (hY : YOk P G l rec F Y H) (hH : ∀ {g w g' w'}, H g w → Ext g w g' w' → H g' w') (hFl : ¬ F l)
include hY hH hFl

theorem cCodeY : ∀ (c : Code) (ic : Ic), cCode P [] nt c = some ic → okY P nt c = true → ∀ (Q : Post) (ρ : Env) (σ : St), ic.wp (CY P G l Y) (LoopsY P G nt l rec F H) Q ρ σ → ∀ (g0 : Gh) (w0 : World) (ds : List Deferred) (a : Act) (w : World), GL G g0 w0 → H g0 w0 →
    AtY nt l rec F g0 w0 ds ρ σ a w → c.wpIn (Fx none) 0 P (PostY nt l rec F g0 w0 ds Q) a w
  | .skip, ic, h, _, Q, ρ, σ, hw, g0, w0, ds, a, w, hG, hH0, hA => by
    simp only [cCode, Option.some.injEq] at h; subst h
    exact wpIn_skip ⟨ρ, σ, hA, hw⟩
  | .region id ops false, ic, h, _, Q, ρ, σ, hw, g0, w0, ds, a, w, hG, hH0, hA => by
    simp only [cCode] at h
    split at h
    · rename_i t ht
      cases h
      exact wpIn_region (cOpsY hY hH hFl ops _ t ht (Q .nx) ρ σ a w g0 w0 ds hG hH0 hA hw _ postY_out fun a' w' h => h)
    · cases h; simp only [Ic.wp] at hw
  | .region id ops true, ic, h, hok, Q, ρ, σ, hw, g0, w0, ds, a, w, hG, hH0, hA => by
    simp only [cCode] at h
    split at h
    · rename_i hc
      simp only [Bool.and_eq_true] at hc
      split at h
      · rename_i t ht
        cases h
        have hno : t.noCa = true := by
          have h1 := hok
          simp only [okY, LoopsY.Code.okY, ht] at h1
          exact h1
        obtain ⟨g, own, hI, hE, hF, hn, hds, hz, hl⟩ := hA
        refine wpIn_region_any hc.1 (wpAny_in (.inl rfl) postY_out _ _ _ _ (cAny_snd (G := G) ops hc.2 _ _ t ht (fun ρ' σ' => Q .nx ρ' σ' ∧ σ'.k = σ.k) ρ σ a w.drew (fun x => F x ∨ x = l) g w.drew ds ((hG.mono hE).mono Ext.drew)
          ⟨g, own, hI.drew, Ext.refl _ _, Fr.refl _ _ _, hn, hds⟩ (itKm t hno (by rwa [c_reg] at hw) fun ρ' σ' e hK => ⟨hK, e⟩) _ (fun a' w' h => ?_) fun c a w h => h))
        exact AtY.of_at (w := w.drew) (g := g) hFl hz hl (hE.trans Ext.drew) (hF.trans fun _ _ => ⟨rfl, rfl⟩) h
      · cases h; simp only [Ic.wp] at hw
    · cases h; simp only [Ic.wp] at hw
  | .seq x y, ic, h, hok, Q, ρ, σ, hw, g0, w0, ds, a, w, hG, hH0, hA => by
    simp only [okY, LoopsY.Code.okY, Bool.and_eq_true] at hok
    simp only [cCode] at h
    split at h
    · rename_i x' y' h1 h2
      cases h
      simp only [Ic.wp] at hw
      refine wpIn_seq (wpIn_mono (cCodeY x x' h1 hok.1 _ ρ σ hw g0 w0 ds a w hG hH0 hA) fun e a' w' hq => ?_)
      cases e with
      | normal =>
        obtain ⟨ρ', σ', hA', hK⟩ := hq
        exact cCodeY y y' h2 hok.2 Q ρ' σ' hK g0 w0 ds a' w' hG hH0 hA'
      | exit id => exact hq
      | ret => exact hq
      | goto l => exact hq
      | panic c => exact hq
      | outgrown => exact hq
    · cases h
  | .cond c x y, ic, h, hok, Q, ρ, σ, hw, g0, w0, ds, a, w, hG, hH0, hA => by
    simp only [okY, LoopsY.Code.okY, Bool.and_eq_true] at hok
    simp only [cCode] at h
    split at h
    · rename_i c' x' y' h0 h1 h2
      cases h
      simp only [Ic.wp] at hw
      split at hw
      · rename_i t ht
        have hA' := hA
        obtain ⟨g, own, hI, hE, hF, hn, hds, _⟩ := hA
        have hr := od_plain hI hn h0 (by rw [ht]; simp)
        rw [ht] at hr
        exact wpIn_cond_split hr.bool_inv (fun e => cCodeY x x' h1 hok.1 Q ρ σ (hw.1 e) g0 w0 ds a w hG hH0 hA') fun e => cCodeY y y' h2 hok.2 Q ρ σ (hw.2 e) g0 w0 ds a w hG hH0 hA'
      · exact hw.elim
    · cases h; simp only [Ic.wp] at hw
  | .block id b, ic, h, hok, Q, ρ, σ, hw, g0, w0, ds, a, w, hG, hH0, hA => by
    simp only [cCode, Option.map_eq_some_iff] at h
    obtain ⟨b', h1, rfl⟩ := h
    simp only [Ic.wp] at hw
    refine wpIn_block (wpIn_mono (cCodeY b b' h1 hok _ ρ σ hw g0 w0 ds a w hG hH0 hA) fun e a' w' hq => ?_)
    cases e with
    | exit i =>
      simp only [PostY, Post.blk, Exit.inBlock] at hq ⊢
      split
      · rename_i hi; simp only [hi, if_true] at hq; exact hq
      · rename_i hi; simp only [hi, if_false] at hq; exact hq
    | normal => exact hq
    | ret => exact hq
    | goto l => exact hq
    | panic c => exact hq
    | outgrown => exact hq
  | .loop b, ic, h, hok, Q, ρ, σ, hw, g0, w0, ds, a, w, hG, hH0, hA => by
    simp only [cCode, Option.map_eq_some_iff] at h
    obtain ⟨b', h1, rfl⟩ := h
    exact hw b h1 g0 w0 ds a w hG hH0 hA hok
  | .exit id, ic, h, _, Q, ρ, σ, hw, g0, w0, ds, a, w, hG, hH0, hA => by
    simp only [cCode, Option.some.injEq] at h; subst h
    exact wpIn_exit ⟨ρ, σ, hA, hw⟩
  | .ret, ic, h, _, Q, ρ, σ, hw, g0, w0, ds, a, w, hG, hH0, hA => by
    simp only [cCode, Option.some.injEq] at h; subst h
    exact wpIn_ret ⟨ρ, σ, hA, hw⟩
  | .rangeFunc .., ic, h, _, _, _, _, hw, _, _, _, _, _, _, _, _ => by
    simp only [cCode, Option.some.injEq] at h; subst h; simp only [Ic.wp] at hw
  | .scope _, ic, h, _, _, _, _, hw, _, _, _, _, _, _, _, _ => by
    simp only [cCode, Option.some.injEq] at h; subst h; simp only [Ic.wp] at hw
  | .label _, ic, h, _, _, _, _, hw, _, _, _, _, _, _, _, _ => by
    simp only [cCode, Option.some.injEq] at h; subst h; simp only [Ic.wp] at hw
  | .goto _, ic, h, _, _, _, _, hw, _, _, _, _, _, _, _, _ => by
    simp only [cCode, Option.some.injEq] at h; subst h; simp only [Ic.wp] at hw
  | .refuse _, ic, h, _, _, _, _, hw, _, _, _, _, _, _, _, _ => by
    simp only [cCode, Option.some.injEq] at h; subst h; simp only [Ic.wp] at hw
end
end Gx

/- Part Gx27. -/
/- A loop over a function: the law. -/
namespace Gx
open Go hiding sizeOf
variable {P : Program} {G : Nat → Option Obj} {nt : Nat}

/-- What a function gives, out of the state at its end. -/
theorem fin_at {fn : Func} {res : List Rv} {σ σ' : St} {r : Pv} {g : Gh} {w : World} {args : List Pv} {vs : Array Value} {own : Pl → Option Nat} {F : Nat → Prop} (hr : cRes P fn.ntmps fn.results.toList = some res)
    (hI : Inv g w σ (fun t => args.getD t .un) vs own F) {ρ1 : Env} {σ1 : St} {a1 : Act} {w1 : World} {g1 : Gh} {own1 : Pl → Option Nat} (hI1 : Inv g1 w1 σ1 ρ1 a1.tmps own1 F) (hE1 : Ext g w g1 w1) (hF1 : Fr F g w g1 w1) (hn1 : a1.tmps.size = fn.ntmps)
    (hfin : Fin res σ r σ' ρ1 σ1) : ∃ v, (results fn a1.tmps).run P w1 = .ok v w1 ∧ ∃ v', Ending.returned v = .returned v' ∧ ∃ g' own', Inv g' w1 σ' (fun _ => r) #[v'] own' F ∧ Ext g w g' w1 ∧ Fr F g w g' w1 := by
  rcases hfin with ⟨n, xs, rfl, hρ, rfl, hk⟩ | ⟨hok, xs, hxs, rfl, hk⟩
  · -- one result, owned
    have hfr : ∃ t, fn.results.toList = [.tmp t] ∧ t = n ∧ t < fn.ntmps := by
      cases hrl : fn.results.toList with
      | nil => rw [hrl] at hr; simp [cRes] at hr
      | cons a l =>
        rw [hrl] at hr
        cases a with
        | tmp t =>
          simp only [cRes] at hr
          split at hr
          · rename_i hlt
            rw [Option.map_eq_some_iff] at hr
            obtain ⟨l', hl', he⟩ := hr
            cases he
            cases l with
            | nil => exact ⟨n, rfl, rfl, hlt⟩
            | cons b l =>
              cases b <;> simp only [cRes] at hl' <;> (split at hl') <;> first | (cases hl'; done) | (rw [Option.map_eq_some_iff] at hl'; obtain ⟨_, _, he⟩ := hl'; cases he) | skip
              split at hl' <;> cases hl'
          · cases hr
        | cell a t =>
          simp only [cRes] at hr
          split at hr
          · split at hr <;> cases hr
          · cases hr
    obtain ⟨t, hrl, rfl, hlt⟩ := hfr
    have hS := hI1.slot t (by rw [hn1]; exact hlt)
    rw [hρ] at hS
    obtain ⟨g', own', i1, i2, i3⟩ := fin_inv hI hI1 hE1 hF1 hk hS (fun b hb => ⟨t, hb⟩)
    refine ⟨_, ?_, _, rfl, g', own', i1, i2, i3⟩
    have hfr : fn.results = #[.tmp t] := by rw [← Array.toArray_toList (xs := fn.results), hrl]
    simp [results, hfr]
  · obtain ⟨g2, hI2, hE2, hF2, hb2, hn2, _, hz2⟩ := hI1.shutbs (resArgs ρ1 res) (resArgs_bsl hI1 hn1 _ _ hr)
    obtain ⟨us, h1, h2, h3⟩ := res_run (P := P) hI1 hn1 hE2 hb2 _ res xs hr hxs (fun x hx => ⟨oksArg_at hok x hx, fun b off n he => hz2 b off n (he ▸ hx)⟩)
    have hrun : (results fn a1.tmps).run P w1 = .ok (if h : us.toArray.size = 1 then us.toArray[0] else .tuple us.toArray) w1 := by
      rw [results_eq, Array.mapM_eq_mapM_toList, map_eq_pure_bind]
      simp only [Sem.run_bind, h1, Sem.run_pure, Result.andThen_ok]
    have hS : S g2 w1 (one? xs) (if h : us.toArray.size = 1 then us.toArray[0] else .tuple us.toArray) none := by
      cases xs with
      | nil =>
        have : us = [] := List.eq_nil_of_length_eq_zero (by simpa using h2)
        subst this
        exact .sh (.tup [] _ rfl fun i x v h => by simp at h)
      | cons x xs =>
        cases xs with
        | nil =>
          obtain ⟨u, rfl⟩ : ∃ u, us = [u] := List.length_eq_one_iff.1 (by simpa using h2)
          exact .sh (h3 0 x u rfl rfl)
        | cons y xs =>
          have hne : ¬ us.toArray.size = 1 := by simp at h2 ⊢; omega
          rw [dif_neg hne]
          exact .sh (.tup _ _ (by simp [h2]) fun i x v hx hv => h3 i x v hx (by simpa using hv))
    obtain ⟨g', own', i1, i2, i3⟩ := fin_inv hI hI2 (hE1.trans hE2) (hF1.trans hF2) hk hS (fun b hb => by cases hb)
    exact ⟨_, hrun, _, rfl, g', own', i1, i2, i3⟩

/-! ### Steps on blocks that are none of the calculus's -/
theorem inv_ext {g g' : Gh} {w w' : World} {σ : St} {ρ : Env} {tm : Array Value} {own : Pl → Option Nat} {F : Nat → Prop} (h : Inv g w σ ρ tm own F) (e : Ext g w g' w') (hn : g'.n = g.n)
    (hk : ∀ p x, own p = some x → w'.heap[x]? = w.heap[x]? ∧ g'.z x = g.z x) : Inv g' w' σ ρ tm own F := by
  refine ⟨hn.trans h.gn, fun t ht => (h.slot t ht).keep e fun b hb => hk _ b hb, fun b hb => ?_, fun b hb => ?_, h.inj, h.dis, fun p x hp => Nat.lt_of_lt_of_le (h.lt p x hp) e.size, fun x hx => Nat.lt_of_lt_of_le (h.flt x hx) e.size⟩
  · rw [e.bl b (h.gn ▸ hb)]
    exact (h.box b hb).keep e (hk _ _ (h.blk b hb)) fun j x hx => hk _ x hx
  · rw [e.bl b (h.gn ▸ hb)]; exact h.blk b hb
theorem inv_F {g : Gh} {w : World} {σ : St} {ρ : Env} {tm : Array Value} {own : Pl → Option Nat} {F F' : Nat → Prop} (h : Inv g w σ ρ tm own F) (hd : ∀ p x, own p = some x → ¬ F' x) (hl : ∀ x, F' x → x < w.heap.size) : Inv g w σ ρ tm own F' :=
  ⟨h.gn, h.slot, h.box, h.blk, h.inj, hd, h.lt, hl⟩
def St.at (σ : St) (k : Nat) : St := ⟨σ.n, σ.m, σ.ro, σ.t, k⟩
theorem inv_k {g : Gh} {w : World} {σ : St} {ρ : Env} {tm : Array Value} {own : Pl → Option Nat} {F : Nat → Prop} (h : Inv g w σ ρ tm own F) (k : Nat) : Inv g w (σ.at k) ρ tm own F :=
  ⟨h.gn, h.slot, h.box, h.blk, h.inj, h.dis, h.lt, h.flt⟩
def noSlot (own : Pl → Option Nat) : Pl → Option Nat
  | .s _ => none
  | q => own q
theorem noSlot_some {own : Pl → Option Nat} {p : Pl} {x : Nat} (h : noSlot own p = some x) : own p = some x := by cases p <;> first | exact h | cases h
theorem inv_slots {g : Gh} {w : World} {σ : St} {ρ ρ' : Env} {tm tm' : Array Value} {own : Pl → Option Nat} {F : Nat → Prop} (h : Inv g w σ ρ tm own F) (hs : ∀ t, t < tm'.size → S g w (ρ' t) (tm'.getD t undef) none) : Inv g w σ ρ' tm' (noSlot own) F :=
  ⟨h.gn, hs, h.box, h.blk, fun p q x hp hq => h.inj p q x (noSlot_some hp) (noSlot_some hq), fun p x hp => h.dis p x (noSlot_some hp), fun p x hp => h.lt p x (noSlot_some hp), h.flt⟩
theorem ext_put {g : Gh} {w : World} {l : Nat} {o : Obj} (o' : Obj) (hl : w.heap[l]? = some o) (hnc : o.isCells = false) (hz : g.z l = some 0) : Ext g w g (w.putObj l o') where
  os := rfl
  tape := rfl
  output := rfl
  size := by simp
  cell b k v hv hs := by
    by_cases e : b = l
    · subst e
      exfalso
      simp only [World.cell?, hl] at hv
      cases o <;> simp_all [Obj.isCells]
    · refine ⟨?_, hs⟩
      have := World.putObj_heap_other (w := w) (o := o') e
      simp only [World.cell?, this] at hv ⊢
      exact hv
  nle := Nat.le_refl _
  bl b hb := rfl
  froz b hb hn := by
    by_cases e : b = l
    · subst e; rw [hz] at hn; cases hn
    · exact ⟨hn, World.putObj_heap_other e⟩
theorem put_inv {g : Gh} {w : World} {σ : St} {ρ : Env} {tm : Array Value} {own : Pl → Option Nat} {F : Nat → Prop} (h : Inv g w σ ρ tm own F) {l : Nat} {o : Obj} (o' : Obj) (hFl : F l) (hl : w.heap[l]? = some o) (hnc : o.isCells = false) (hz : g.z l = some 0) :
    Inv g (w.putObj l o') σ ρ tm own F :=
  inv_ext h (ext_put o' hl hnc hz) rfl fun p x hp => ⟨World.putObj_heap_other (fun e => h.dis p x hp (e ▸ hFl)), rfl⟩

/-! ### A round -/
def jumpOf : Nat → Option Code
  | 0 => none
  | 1 => some .ret
  | k + 2 => some (.exit k)
def recOf (b : Loop) (k : Nat) : Obj := .loop { b with state := if (jumpOf k).isNone then .ready else .done, pending := jumpOf k }
def parEnv (ρ : Env) : List Nat → List Pv → Env
  | p :: ps, x :: xs => parEnv (put ρ p x.shr) ps xs
  | _, _ => ρ
def QB (r : Pv) (σ' : St) : Post := fun e _ σ1 => match e with
  | .nx => r = .bool true ∧ σ' = σ1.at 0
  | .rt => r = .bool false ∧ σ' = σ1.at 1
  | .ex id => r = .bool false ∧ σ' = σ1.at (id + 2)
/-- What a yield does: the assignments, the loop's body. -/
def YB (P : Program) (G : Nat → Option Obj) (ia ib : Ic) (ps : List Nat) (ρ : Env) (args : List Pv) (σ : St) (r : Pv) (σ' : St) : Prop :=
  σ.k = 0 ∧ args.length = ps.length ∧ ia.wp (ARet P G) NoL (Post.then (ib.wp (ARet P G) NoL (QB r σ')) fun _ _ _ => False) (parEnv (fun t => (ρ t).shr) ps args) σ

theorem par_R {g : Gh} {w : World} : ∀ (ps : List Nat) (xs : List Pv) (vs : List Value) (ρ : Env) (tm : Array Value), xs.length = vs.length → (∀ (i : Nat) x v, xs[i]? = some x → vs[i]? = some v → R g w x.shr v) → (∀ t, t < tm.size → R g w (ρ t) (tm.getD t undef)) →
    ((ps.zip vs).foldl (fun t p => t.setIfInBounds p.1 p.2) tm).size = tm.size ∧ ∀ t, t < tm.size → R g w (parEnv ρ ps xs t) (((ps.zip vs).foldl (fun t p => t.setIfInBounds p.1 p.2) tm).getD t undef)
  | [], xs, vs, ρ, tm, hl, hx, hr => by simpa [parEnv] using hr
  | p :: ps, [], [], ρ, tm, hl, hx, hr => by simpa [parEnv] using hr
  | p :: ps, [], v :: vs, ρ, tm, hl, hx, hr => by simp at hl
  | p :: ps, x :: xs, [], ρ, tm, hl, hx, hr => by simp at hl
  | p :: ps, x :: xs, v :: vs, ρ, tm, hl, hx, hr => by
    obtain ⟨h1, h2⟩ := par_R (g := g) (w := w) ps xs vs (put ρ p x.shr) (tm.setIfInBounds p v) (by simpa using hl) (fun i y u hy hu => hx (i + 1) y u (by simpa using hy) (by simpa using hu)) (fun t ht => by
      rw [Array.size_setIfInBounds] at ht
      rw [put_at]
      by_cases e : t = p
      · subst e
        rw [if_pos rfl]
        have : (tm.setIfInBounds t v).getD t undef = v := by simp [Array.getD_eq_getD_getElem?, ht]
        rw [this]
        exact hx 0 x v rfl rfl
      · rw [if_neg e]
        have : (tm.setIfInBounds p v).getD t undef = tm.getD t undef := by
          simp only [Array.getD_eq_getD_getElem?]
          rw [Array.getElem?_setIfInBounds_ne (Ne.symm e)]
        rw [this]
        exact hr t ht)
    rw [Array.size_setIfInBounds] at h1 h2
    exact ⟨by simpa using h1, by simpa [parEnv] using h2⟩

/-- The slots of the loop's own frame, asq they stood where it began. -/
def SlotsR (ρ : Env) (tm : Array Value) (g : Gh) (w : World) : Prop := ∀ t, t < tm.size → R g w (ρ t).shr (tm.getD t undef)
theorem slotsR_ext {ρ : Env} {tm : Array Value} {g g' : Gh} {w w' : World} (h : SlotsR ρ tm g w) (e : Ext g w g' w') : SlotsR ρ tm g' w' := fun t ht => (h t ht).mono e

theorem yb_ok {assign body : Code} {ia ib : Ic} (hca : cCode P [] nt assign = some ia) (hcb : cCode P [] nt body = some ib) (hna : Code.nd assign = true) (hnb : Code.nd body = true) {b : Loop} (ha : b.assign = assign) (hb : b.body = body) (hn : b.tmps.size = nt)
    {l : Nat} {F : Nat → Prop} {ρ : Env} : YOk P G l (recOf b) F (YB P G ia ib b.params.toList ρ) (SlotsR ρ b.tmps) := by
  intro args σ r σ' hYB g w vs own F' hG hH hsz hI hF hz hl
  obtain ⟨hk0, hlen, hwp⟩ := hYB
  have hl0 : w.heap[l]? = some (.loop { b with state := .ready, pending := none }) := by rw [hl, hk0]; rfl
  have hF'l : F' l := hF l (.inr rfl)
  have hy := run_yield (P := P) (args := vs) hl0 (by rw [hsz, hlen]; simp)
  refine ⟨_, _, _, _, hy, roundIn_of_wpIn trivial ?_⟩
  simp only [ha, hb]
  have htm := par_R (g := g) (w := w) b.params.toList args vs.toList (fun t => (ρ t).shr) b.tmps (by simpa using hsz.symm) (fun i x v hx hv => by
    have hlt : i < vs.size := by have := (List.getElem?_eq_some_iff.1 hv).1; simpa using this
    have hS := hI.slot i hlt
    rw [List.getD_eq_getElem?_getD, hx, Array.getD_eq_getD_getElem?] at hS
    rw [Array.getElem?_toList] at hv
    rw [hv] at hS
    exact hS.shr) hH
  obtain ⟨htm1, htm2⟩ := htm
  have hfold : (b.params.zip vs).foldl (fun t (p, v) => t.setIfInBounds p v) b.tmps = (b.params.toList.zip vs.toList).foldl (fun t p => t.setIfInBounds p.1 p.2) b.tmps := by
    rw [← Array.foldl_toList, Array.toList_zip]
  have hI0 := inv_slots hI (tm' := (b.params.toList.zip vs.toList).foldl (fun t p => t.setIfInBounds p.1 p.2) b.tmps) (ρ' := parEnv (fun t => (ρ t).shr) b.params.toList args) fun t ht => .sh (htm2 t (htm1 ▸ ht))
  rw [hfold]
  refine wpIn_mono (cCodeR_snd (G := G) assign ia hca hna _ _ σ hwp F' g w [] _ w hG ⟨g, _, hI0, Ext.refl g w, Fr.refl F' g w, htm1.trans hn, rfl⟩) fun e a1 w1 hq => ?_
  cases e with
  | normal =>
    obtain ⟨ρ1, σ1, ⟨g1, own1, hI1, hE1, hF1, hn1, hd1⟩, hwb⟩ := hq
    have hl1 : w1.heap[l]? = some (.loop { b with state := .ready, pending := none }) := (hF1 l hF'l).1.trans hl0
    have hz1 : g1.z l = some 0 := (hF1 l hF'l).2.trans hz
    refine ⟨_, run_beginRound hl1 rfl, ?_⟩
    have hI2 := put_inv hI1 (.loop { b with state := .busy, pending := none }) hF'l hl1 rfl hz1
    have hE2 := ext_put (.loop { b with state := .busy, pending := none }) hl1 rfl hz1
    have hlt1 : l < w1.heap.size := (Array.getElem?_eq_some_iff.1 hl1).1
    refine wpIn_mono (cCodeR_snd (G := G) body ib hcb hnb _ _ σ1 hwb F' g1 _ [] a1 _ ((hG.mono hE1).mono hE2) ⟨g1, own1, hI2, Ext.refl _ _, Fr.refl _ _ _, hn1, hd1⟩) fun e a3 w3 hq3 => ?_
    have fin : ∀ (jump : Option Code) (k : Nat), jump = jumpOf k → (∃ ρ3 σ3, At nt F' g1 (w1.putObj l (.loop { b with state := .busy, pending := none })) [] ρ3 σ3 a3 w3 ∧ r = .bool jump.isNone ∧ σ' = σ3.at k) →
        ∃ v w', (Instr.endRound l jump).run P w3 = .ok v w' ∧ ∃ v', Ending.returned v = .returned v' ∧ ∃ g' own', Inv g' w' σ' (fun _ => r) #[v'] own' F' ∧ Ext g w g' w' ∧ (∀ x, F' x → x ≠ l → w'.heap[x]? = w.heap[x]? ∧ g'.z x = g.z x) ∧ g'.z l = some 0 ∧ w'.heap[l]? = some (recOf b σ'.k) := by
      rintro jump k hj ⟨ρ3, σ3, ⟨g3, own3, hI3, hE3, hF3, hn3, hd3⟩, rfl, rfl⟩
      have hl3 : w3.heap[l]? = some (.loop { b with state := .busy, pending := none }) := (hF3 l hF'l).1.trans (World.putObj_heap_same hlt1)
      have hz3 : g3.z l = some 0 := (hF3 l hF'l).2.trans hz1
      have hlt3 : l < w3.heap.size := (Array.getElem?_eq_some_iff.1 hl3).1
      refine ⟨_, _, run_endRound jump hl3, _, rfl, g3, noSlot own3, ?_, ?_, ?_, hz3, ?_⟩
      · refine inv_k (inv_slots (put_inv hI3 _ hF'l hl3 rfl hz3) fun t ht => ?_) k
        obtain rfl : t = 0 := by simpa using ht
        exact .sh (.bool _)
      · exact ((hE1.trans hE2).trans hE3).trans (ext_put _ hl3 rfl hz3)
      · intro x hx hne
        rw [World.putObj_heap_other hne, (hF3 x hx).1, World.putObj_heap_other hne, (hF3 x hx).2]
        exact hF1 x hx
      · rw [World.putObj_heap_same hlt3, hj]; rfl
    cases e with
    | normal =>
      obtain ⟨ρ3, σ3, hA3, h1, h2⟩ := hq3
      exact fin none 0 rfl ⟨ρ3, σ3, hA3, h1, h2⟩
    | ret =>
      obtain ⟨ρ3, σ3, hA3, h1, h2⟩ := hq3
      exact fin (some .ret) 1 rfl ⟨ρ3, σ3, hA3, h1, h2⟩
    | exit id =>
      obtain ⟨ρ3, σ3, hA3, h1, h2⟩ := hq3
      exact fin (some (.exit id)) (id + 2) rfl ⟨ρ3, σ3, hA3, h1, h2⟩
    | goto t => exact hq3.elim
    | panic c => exact hq3.elim
    | outgrown => exact hq3.elim
  | ret => obtain ⟨_, _, _, hf⟩ := hq; exact hf.elim
  | exit id => obtain ⟨_, _, _, hf⟩ := hq; exact hf.elim
  | goto t => exact hq.elim
  | panic c => exact hq.elim
  | outgrown => exact hq.elim
end Gx

/- Part Gx28. -/
/- A loop over a function: the law. -/
namespace Gx
open Go hiding sizeOf
open Go.RowKit
variable {P : Program} {G : Nat → Option Obj} {nt : Nat}

/-- What is known of loops. -/
def LRule (C : Crel) (L : Ic → Post → Env → St → Prop) : Prop :=
  ∀ (b : Ic) (Q : Post) (I : Nat → Env → St → Prop), (∀ n ρ σ, I n ρ σ → b.wp C L (Post.then (fun ρ' σ' => ∃ m, m < n ∧ I m ρ' σ') Q) ρ σ) → ∀ n ρ σ, I n ρ σ → L b Q ρ σ

theorem wpIn_loop_down {F : Fence} {n0 : Nat} {c : Code} {Q : Exit → Act → World → Prop} (I : Nat → Act → World → Prop) (round : ∀ n a w, I n a w → c.wpIn F n0 P (Exit.then (fun a' w' => ∃ m, m < n ∧ I m a' w') Q) a w) : ∀ n a w, I n a w → (Code.loop c).wpIn F n0 P Q a w := by
  intro n a w h0 b k cs hro hb hr
  have key : ∀ n a w, I n a w → ∃ e a' w', Q e a' w' ∧ ArrivesIn (Machine.fenced P F) P (lone (b.atR a (.code c :: .inLoop c :: k)) cs w) b k cs e a' w' := by
    intro n
    induction n using Nat.strongRecOn with
    | _ n ih =>
      intro a w hI
      obtain ⟨e, a₁, w₁, hq, harr⟩ := round n a w hI b (.inLoop c :: k) cs hro hb hr
      cases e with
      | normal =>
        obtain ⟨m, hlt, hI₁⟩ := hq
        obtain ⟨e₂, a₂, w₂, hq₂, harr₂⟩ := ih m hlt a₁ w₁ hI₁
        exact ⟨e₂, a₂, w₂, hq₂, .of_steps (StepsIn.trans harr (.one (fenced_calm hb hr rfl) stepR_inLoop)) harr₂⟩
      | exit id => exact ⟨_, a₁, w₁, hq, .pass (x := .inLoop c) rfl (fun _ _ => .inl (by simp)) harr⟩
      | goto l => exact ⟨_, a₁, w₁, hq, .pass (x := .inLoop c) rfl (fun _ _ => .inl (by simp)) harr⟩
      | ret => exact ⟨_, a₁, w₁, hq, .pass (x := .inLoop c) rfl (fun _ _ => .inl (by simp)) harr⟩
      | panic ch => exact ⟨_, a₁, w₁, hq, .pass (x := .inLoop c) rfl (fun _ _ => .inl (by simp)) harr⟩
      | outgrown => exact ⟨_, a₁, w₁, hq, .pass (x := .inLoop c) rfl (fun _ _ => .inl (by simp)) harr⟩
  obtain ⟨e, a', w', hq, harr⟩ := key n a w h0
  exact ⟨e, a', w', hq, .of_steps (.one (fenced_calm hb hr rfl) stepR_loop) harr⟩

theorem loopsY_rule {l : Nat} {rec : Nat → Obj} {F : Nat → Prop} {Y : List Pv → St → Pv → St → Prop} {H : Gh → World → Prop} (hY : YOk P G l rec F Y H) (hH : ∀ {g w g' w'}, H g w → Ext g w g' w' → H g' w') (hFl : ¬ F l) :
    LRule (CY P G l Y) (LoopsY P G nt l rec F H) := by
  intro b Q I round n ρ σ h c hc g0 w0 ds a w hG hH0 hA hok
  refine wpIn_loop_down (fun n a w => ∃ ρ σ, AtY nt l rec F g0 w0 ds ρ σ a w ∧ I n ρ σ) (fun n a w hI => ?_) n a w ⟨ρ, σ, hA, h⟩
  obtain ⟨ρ, σ, hA, hI⟩ := hI
  refine wpIn_mono (cCodeY hY hH hFl c b hc hok _ ρ σ (round n ρ σ hI) g0 w0 ds a w hG hH0 hA) fun e a' w' hq => ?_
  cases e with
  | normal =>
    obtain ⟨ρ', σ', hA', m, hm, hI'⟩ := hq
    exact ⟨m, hm, ρ', σ', hA', hI'⟩
  | exit id => exact hq
  | ret => exact hq
  | goto l => exact hq
  | panic c => exact hq
  | outgrown => exact hq

/-- Behind a loop over a function: the block of the rounds' deferred calls lies there, empty. -/
def AtD (nt : Nat) (F : Nat → Prop) (g0 : Gh) (w0 : World) (ds : List Deferred) (K : Env → St → Prop) (a : Act) (w : World) : Prop :=
  ∃ D ρ σ g own, Inv g w σ ρ a.tmps own (fun x => F x ∨ x = D) ∧ Ext g0 w0 g w ∧ Fr F g0 w0 g w ∧ a.tmps.size = nt ∧ a.defers = { target := .collected D, args := #[] } :: ds ∧ w.heap[D]? = some (.deferred (some [])) ∧ g.z D = some 0 ∧ ¬ F D ∧ K ρ σ
def PostD (nt : Nat) (F : Nat → Prop) (g0 : Gh) (w0 : World) (ds : List Deferred) (Q : Post) : Exit → Act → World → Prop
  | .normal, a, w => AtD nt F g0 w0 ds (Q .nx) a w
  | .exit id, a, w => AtD nt F g0 w0 ds (Q (.ex id)) a w
  | .ret, a, w => AtD nt F g0 w0 ds (Q .rt) a w
  | _, _, _ => False

/-- What the iterator must come to. -/
def ItPost (Q : Post) (ρ : Env) : Post := fun e _ σ => (e = .nx ∨ e = .rt) ∧ match σ.k with
  | 0 => Q .nx (fun t => (ρ t).shr) σ
  | 1 => Q .rt (fun t => (ρ t).shr) σ
  | k + 2 => Q (.ex k) (fun t => (ρ t).shr) σ

theorem rf_law {gop : Operand} {god : Od} (hgo : odOf nt gop = some god) {ps : Array Tmp} {assign body : Code} {ia ib : Ic} (hca : cCode P [] nt assign = some ia) (hcb : cCode P [] nt body = some ib) (hna : Code.nd assign = true) (hnb : Code.nd body = true)
    {gf : FuncId} {caps : List Pv} {ρ : Env} (hcl : god.ev ρ = .clo gf [] caps) (hlt : gf < ynum) {fni : Func} (hfi : P.funcs[gf]? = some fni) (hname : (fni.name == "runtime.NumGoroutine") = false) {ci : Code} (hci : fni.body = some ci) {ii : Ic} (hcci : cCode P [] fni.ntmps ci = some ii)
    (hok : okY P fni.ntmps ci = true) (hres : fni.results = #[]) (hle : caps.length + 1 ≤ fni.ntmps) {Q : Post} {σ : St}
    (hit : ∀ (l : Nat) (L : Ic → Post → Env → St → Prop), LRule (CY P G l (YB P G ia ib ps.toList ρ)) L → ii.wp (CY P G l (YB P G ia ib ps.toList ρ)) L (ItPost Q ρ) (envOf (.clo (ynum + l) [] [] :: caps)) (σ.at 0))
    {F : Nat → Prop} {g0 : Gh} {w0 : World} {ds : List Deferred} {a : Act} {w : World} (hG : GL G g0 w0) (hA : At nt F g0 w0 ds ρ σ a w) : (Code.rangeFunc gop ps assign body).wp P (PostD nt F g0 w0 ds Q) a w := by
  refine (wpIn_wide (n := 0)).1 (wpIn_rangeFunc fun fn _ => ?_)
  obtain ⟨g, own, hI, hE, hF, hn, hds⟩ := hA
  have hrf := od_plain hI hn hgo (by rw [hcl]; simp)
  rw [hcl] at hrf
  obtain ⟨lb, hv, hlb, hcap⟩ : ∃ lb : Array Value, a.eval gop = .func (.func gf) #[] lb ∧ caps.length = lb.size ∧ ∀ (i : Nat) x v, caps[i]? = some x → lb[i]? = some v → R g w x v := by
    generalize a.eval gop = v at hrf
    cases hrf with
    | clo _ _ _ us vs hfl hcl2 r1 r2 hlt2 =>
      obtain rfl : us = #[] := Array.eq_empty_of_size_eq_zero (by simpa using hfl.symm)
      exact ⟨vs, rfl, hcl2, r2⟩
    | yld l' => exact absurd hlt (Nat.not_lt.2 (Nat.le_add_right _ _))
  obtain ⟨base, hbase⟩ : ∃ base : Loop, base = { state := .ready, pending := none, fn, tmps := a.tmps, params := ps, assign, body, defers := w.heap.size } := ⟨_, rfl⟩
  obtain ⟨W1, hW1⟩ : ∃ W1, (w.alloc (.deferred (some []))).alloc (.loop base) = W1 := ⟨_, rfl⟩
  obtain ⟨gL, hgL⟩ : ∃ gL : Gh, (g.zset w.heap.size (some 0)).zset (w.alloc (.deferred (some []))).heap.size (some 0) = gL := ⟨_, rfl⟩
  have hE1 : Ext g w gL W1 := by rw [← hgL, ← hW1]; exact (Ext.alloc _ _).trans (Ext.alloc _ _)
  have hsz : (w.alloc (.deferred (some []))).heap.size = w.heap.size + 1 := by simp
  have hsame : ∀ x, x < w.heap.size → W1.heap[x]? = w.heap[x]? ∧ gL.z x = g.z x := by
    intro x hx
    rw [← hW1, ← hgL]
    refine ⟨(Below.heap_alloc _ _ _ (by rw [hsz]; omega)).trans (Below.heap_alloc _ _ _ hx), ?_⟩
    simp only [Gh.zset, hsz]
    rw [if_neg (by omega), if_neg (by omega)]
  have hlW : W1.heap[w.heap.size + 1]? = some (recOf base 0) := by
    rw [← hW1]
    have := World.alloc_heap_new (w.alloc (.deferred (some []))) (.loop base)
    rw [hsz] at this
    rw [this, hbase]
    rfl
  have hDW : W1.heap[w.heap.size]? = some (.deferred (some [])) := by
    rw [← hW1]; exact (Below.heap_alloc _ _ _ (by rw [hsz]; omega)).trans (World.alloc_heap_new w _)
  have hzl : gL.z (w.heap.size + 1) = some 0 := by rw [← hgL]; simp [Gh.zset]
  have hzD : gL.z w.heap.size = some 0 := by rw [← hgL]; simp only [Gh.zset, hsz]; rw [if_neg (by omega)]; simp
  have hWs : W1.heap.size = w.heap.size + 2 := by rw [← hW1]; simp
  have hFD : ¬ F w.heap.size := fun h => Nat.lt_irrefl _ (hI.flt _ h)
  have hSl : SlotsR ρ a.tmps g w := fun t ht => (hI.slot t ht).shr
  have hI1 : Inv gL W1 (σ.at 0) (envOf (.clo (ynum + (w.heap.size + 1)) [] [] :: caps)) (#[Value.func (Fn.yield (w.heap.size + 1)) #[] #[]] ++ lb ++ Array.replicate (fni.ntmps - (#[Value.func (Fn.yield (w.heap.size + 1)) #[] #[]] ++ lb).size) undef) (noSlot own)
      (fun x => (F x ∨ x = w.heap.size) ∨ x = w.heap.size + 1) := by
    refine inv_F (F := F) (inv_k (inv_slots (inv_ext hI hE1 (by rw [← hgL]; rfl) fun p x hp => hsame x (hI.lt p x hp)) fun t ht => ?_) 0) (fun p x hp hx => ?_) fun x hx => ?_
    · rw [Array.getD_eq_getD_getElem?]
      unfold envOf
      rw [List.getD_eq_getElem?_getD]
      cases t with
      | zero =>
        have e1 : (#[Value.func (Fn.yield (w.heap.size + 1)) #[] #[]] ++ lb ++ Array.replicate (fni.ntmps - (#[Value.func (Fn.yield (w.heap.size + 1)) #[] #[]] ++ lb).size) undef)[0]? = some (Value.func (Fn.yield (w.heap.size + 1)) #[] #[]) := by
          rw [Array.getElem?_append_left (by simp; omega), Array.getElem?_append_left (by simp)]
          rfl
        rw [e1]
        exact .sh (.yld _)
      | succ t =>
        by_cases h1 : t < lb.size
        · have e1 : (#[Value.func (Fn.yield (w.heap.size + 1)) #[] #[]] ++ lb ++ Array.replicate (fni.ntmps - (#[Value.func (Fn.yield (w.heap.size + 1)) #[] #[]] ++ lb).size) undef)[t + 1]? = some lb[t] := by
            rw [Array.getElem?_append_left (by simp; omega), Array.getElem?_append_right (by simp)]
            simp [h1]
          rw [e1]
          have h2 : t < caps.length := by omega
          have e2 : (Pv.clo (ynum + (w.heap.size + 1)) [] [] :: caps)[t + 1]? = some caps[t] := by simp [h2]
          rw [e2]
          exact .sh ((hcap t _ _ (by simp [h2]) (by simp [h1])).mono hE1)
        · have e1 : (#[Value.func (Fn.yield (w.heap.size + 1)) #[] #[]] ++ lb ++ Array.replicate (fni.ntmps - (#[Value.func (Fn.yield (w.heap.size + 1)) #[] #[]] ++ lb).size) undef)[t + 1]?.getD undef = undef := by
            rw [Array.getElem?_append_right (by simp; omega), Array.getElem?_replicate]
            split <;> rfl
          rw [e1]
          have e2 : (Pv.clo (ynum + (w.heap.size + 1)) [] [] :: caps)[t + 1]? = none := by simp; omega
          rw [e2]
          exact .sh .un
    · have hx' := hI.lt _ x (noSlot_some hp)
      rcases hx with (hx | hx) | hx
      · exact hI.dis _ x (noSlot_some hp) hx
      · omega
      · omega
    · rcases hx with (hx | hx) | hx
      · have := hI.flt x hx; omega
      · omega
      · omega
  have hFl : ¬ ((fun x => F x ∨ x = w.heap.size) (w.heap.size + 1)) := by
    rintro (h | h)
    · have := hI.flt _ h; omega
    · omega
  have hY : YOk P G (w.heap.size + 1) (recOf base) (fun x => F x ∨ x = w.heap.size) (YB P G ia ib ps.toList ρ) (SlotsR ρ a.tmps) := by
    have := yb_ok (P := P) (G := G) (nt := nt) (b := base) (l := w.heap.size + 1) (F := fun x => F x ∨ x = w.heap.size) (ρ := ρ) hca hcb hna hnb (by rw [hbase]) (by rw [hbase]) (by rw [hbase]; exact hn)
    rw [hbase] at this ⊢
    exact this
  refine ⟨w.heap.size + 1, [{ target := .collected w.heap.size, args := #[] }], W1, { target := .fn (.func gf) lb, args := #[.func (.yield (w.heap.size + 1)) #[] #[]] }, W1, gf, #[.func (.yield (w.heap.size + 1)) #[] #[]] ++ lb, W1, ?_, ?_, fun _ _ => trivial, ?_, fun h => (by simp [Fence.wide] at h), ?_⟩
  · rw [← hW1, hbase]; exact run_enterLoop_outer _ _ _ _ _
  · simp only [resolve, hv]
    simp [go_sem]
  · have hbn' : ¬ fni.body = none := by rw [hci]; simp
    have hnm : ¬ fni.name = "runtime.NumGoroutine" := by simpa using hname
    simp [invoke, callFunc, hfi, hnm, hbn']
  · refine callsIn_of_wp hfi hci trivial ?_ rfl
    refine wpIn_mono (cCodeY (nt := fni.ntmps) hY slotsR_ext hFl ci ii hcci hok _ _ (σ.at 0) (hit (w.heap.size + 1) _ (loopsY_rule hY slotsR_ext hFl)) gL W1 [] _ W1 (hG.mono (hE.trans hE1)) (slotsR_ext hSl hE1)
      ⟨gL, noSlot own, hI1, Ext.refl _ _, Fr.refl _ _ _, by simp; omega, rfl, hzl, hlW⟩) fun e a3 w3 hq => ?_
    have fin : AtYK fni.ntmps (w.heap.size + 1) (recOf base) (fun x => F x ∨ x = w.heap.size) gL W1 [] (fun ρ' σe => match σe.k with
          | 0 => Q .nx (fun t => (ρ t).shr) σe
          | 1 => Q .rt (fun t => (ρ t).shr) σe
          | k + 2 => Q (.ex k) (fun t => (ρ t).shr) σe) a3 w3 → a3.defers = [] ∧ ∃ v, (results fni a3.tmps).run P w3 = .ok v w3 ∧
        rangePost Fence.wide 0 P (w.heap.size + 1) (PostD nt F g0 w0 ds Q) { a with defers := [{ target := .collected w.heap.size, args := #[] }] ++ a.defers } (.returned v) w3 := by
      rintro ⟨ρ3, σe, ⟨g3, own3, hI3, hE3, hF3, hn3, hd3, hz3, hl3⟩, hQ⟩
      refine ⟨hd3, _, by simp [results, hres]; rfl, ?_⟩
      have hnb3 : ({ base with state := if (jumpOf σe.k).isNone then LoopState.ready else LoopState.done, pending := jumpOf σe.k } : Loop).state ≠ .busy := by
        simp only
        split <;> simp
      refine ⟨_, _, run_endLoop hl3 hnb3, ?_⟩
      have hI4 := put_inv hI3 (.loop { ({ base with state := if (jumpOf σe.k).isNone then LoopState.ready else LoopState.done, pending := jumpOf σe.k } : Loop) with state := .exhausted }) (.inr rfl) hl3 rfl hz3
      have hE4 := ext_put (.loop { ({ base with state := if (jumpOf σe.k).isNone then LoopState.ready else LoopState.done, pending := jumpOf σe.k } : Loop) with state := .exhausted }) hl3 rfl hz3
      have hEE := ((hE.trans hE1).trans hE3).trans hE4
      have hSl4 := slotsR_ext hSl ((hE1.trans hE3).trans hE4)
      have hD : ∀ K : Env → St → Prop, K (fun t => (ρ t).shr) σe → AtD nt F g0 w0 ds K { a with defers := [{ target := .collected w.heap.size, args := #[] }] ++ a.defers } (w3.putObj (w.heap.size + 1) (.loop { ({ base with state := if (jumpOf σe.k).isNone then LoopState.ready else LoopState.done, pending := jumpOf σe.k } : Loop) with state := .exhausted })) := by
        intro K hK
        refine ⟨w.heap.size, _, σe, g3, noSlot own3, inv_F (inv_slots hI4 fun t ht => .sh (hSl4 t ht)) (fun p x hp hx => hI4.dis p x (noSlot_some hp) (.inl hx)) (fun x hx => hI4.flt x (.inl hx)), hEE, ?_, hn, by rw [← hds]; rfl, ?_, ?_, hFD, hK⟩
        · intro x hx
          have hxl := hI.flt x hx
          rw [World.putObj_heap_other (by omega), (hF3 x (.inl hx)).1, (hF3 x (.inl hx)).2, (hsame x hxl).1, (hsame x hxl).2]
          exact hF x hx
        · rw [World.putObj_heap_other (by omega), (hF3 _ (.inr rfl)).1]; exact hDW
        · rw [(hF3 _ (.inr rfl)).2]; exact hzD
      cases hk : σe.k with
      | zero => rw [hk] at hQ; simp only [hk, jumpOf] at hD ⊢; exact hD _ hQ
      | succ k => cases k with
        | zero => rw [hk] at hQ; simp only [hk, jumpOf] at hD ⊢; exact wpIn_ret (hD _ hQ)
        | succ k => rw [hk] at hQ; simp only [hk, jumpOf] at hD ⊢; exact wpIn_exit (hD _ hQ)
    cases e with
    | normal => obtain ⟨ρ3, σ3, hA3, _, hq3⟩ := hq; exact fin ⟨ρ3, σ3, hA3, hq3⟩
    | ret => obtain ⟨ρ3, σ3, hA3, _, hq3⟩ := hq; exact fin ⟨ρ3, σ3, hA3, hq3⟩
    | exit id => obtain ⟨_, _, _, hf, _⟩ := hq; rcases hf with hf | hf <;> cases hf
    | goto t => exact hq.elim
    | panic c => exact hq.elim
    | outgrown => exact hq.elim
end Gx

/- Part Gx29. -/
/- Functions that hold a loop over a function. -/
namespace Gx
open Go hiding sizeOf
open Go.RowKit
variable {P : Program} {G : Nat → Option Obj} {nt : Nat}

theorem seq_pl {x y : Code} {ix : Ic} (hx : cCode P [] nt x = some ix) {Q : Post} {R : Exit → Act → World → Prop} {F : Nat → Prop} {g0 : Gh} {w0 : World} {ds : List Deferred} {ρ : Env} {σ : St} {a : Act} {w : World}
    (hR : ∀ e a w, e ≠ .normal → PostQ nt F g0 w0 ds Q e a w → R e a w) (hG : GL G g0 w0) (hA : At nt F g0 w0 ds ρ σ a w)
    (h : ix.wp (ARet P G) (Loops P G [] nt) (Post.then (fun ρ' σ' => ∀ a' w', At nt F g0 w0 ds ρ' σ' a' w' → y.wp P R a' w') Q) ρ σ) : (Code.seq x y).wp P R a w := by
  refine wp_seq (wp_mono (cCode_snd (G := G) x ix hx _ ρ σ h F g0 w0 ds a w hG hA) fun e a' w' hq => ?_)
  cases e with
  | normal => obtain ⟨ρ', σ', hA', hK⟩ := hq; exact hK a' w' hA'
  | exit id => exact hR _ _ _ (by simp) hq
  | ret => exact hR _ _ _ (by simp) hq
  | goto l => exact hq.elim
  | panic c => exact hq.elim
  | outgrown => exact hq.elim

/-- Code behind the loop. -/
theorem cCode_D {c : Code} {ic : Ic} (hc : cCode P [] nt c = some ic) {Q : Post} {F : Nat → Prop} {g0 : Gh} {w0 : World} {ds : List Deferred} {a : Act} {w : World} (hG : GL G g0 w0)
    (h : AtD nt F g0 w0 ds (fun ρ σ => ic.wp (ARet P G) (Loops P G [] nt) Q ρ σ) a w) : c.wp P (PostD nt F g0 w0 ds Q) a w := by
  obtain ⟨D, ρ, σ, g, own, hI, hE, hF, hn, hds, hD, hz, hFD, hw⟩ := h
  refine wp_mono (cCode_snd (G := G) c ic hc Q ρ σ hw (fun x => F x ∨ x = D) g w _ a w (hG.mono hE) ⟨g, own, hI, Ext.refl _ _, Fr.refl _ _ _, hn, hds⟩) fun e a' w' hq => ?_
  have key : ∀ K : Env → St → Prop, AtK nt (fun x => F x ∨ x = D) g w ({ target := .collected D, args := #[] } :: ds) K a' w' → AtD nt F g0 w0 ds K a' w' := by
    rintro K ⟨ρ', σ', ⟨g', own', hI', hE', hF', hn', hds'⟩, hK⟩
    exact ⟨D, ρ', σ', g', own', hI', hE.trans hE', hF.trans fun x hx => hF' x (.inl hx), hn', hds', (hF' D (.inr rfl)).1.trans hD, (hF' D (.inr rfl)).2.trans hz, hFD, hK⟩
  cases e with
  | normal => exact key _ hq
  | exit id => exact key _ hq
  | ret => exact key _ hq
  | goto l => exact hq.elim
  | panic c => exact hq.elim
  | outgrown => exact hq.elim

/-- The loop in its block, and what comes behind it. -/
theorem rf_mid {id : Nat} {gop : Operand} {god : Od} (hgo : odOf nt gop = some god) {ps : Array Tmp} {assign body z : Code} {ia ib iz : Ic} (hca : cCode P [] nt assign = some ia) (hcb : cCode P [] nt body = some ib) (hcz : cCode P [] nt z = some iz) (hna : Code.nd assign = true) (hnb : Code.nd body = true)
    {gf : FuncId} {caps : List Pv} {ρ : Env} (hcl : god.ev ρ = .clo gf [] caps) (hlt : gf < ynum) {fni : Func} (hfi : P.funcs[gf]? = some fni) (hname : (fni.name == "runtime.NumGoroutine") = false) {ci : Code} (hci : fni.body = some ci) {ii : Ic} (hcci : cCode P [] fni.ntmps ci = some ii)
    (hok : okY P fni.ntmps ci = true) (hres : fni.results = #[]) (hle : caps.length + 1 ≤ fni.ntmps) {Q : Post} {σ : St}
    (hit : ∀ (l : Nat) (L : Ic → Post → Env → St → Prop), LRule (CY P G l (YB P G ia ib ps.toList ρ)) L →
      ii.wp (CY P G l (YB P G ia ib ps.toList ρ)) L (ItPost (Post.blk id (Post.then (fun ρ σ => iz.wp (ARet P G) (Loops P G [] nt) Q ρ σ) Q)) ρ) (envOf (.clo (ynum + l) [] [] :: caps)) (σ.at 0))
    {F : Nat → Prop} {g0 : Gh} {w0 : World} {ds : List Deferred} {a : Act} {w : World} (hG : GL G g0 w0) (hA : At nt F g0 w0 ds ρ σ a w) {R : Exit → Act → World → Prop} (hRD : ∀ e a w, PostD nt F g0 w0 ds Q e a w → R e a w) :
    (Code.block id (Code.rangeFunc gop ps assign body)).wp P (Exit.then (z.wp P R) R) a w := by
  refine wp_block (wp_mono (rf_law hgo hca hcb hna hnb hcl hlt hfi hname hci hcci hok hres hle hit hG hA) fun e a' w' hq => ?_)
  have hz : AtD nt F g0 w0 ds (fun ρ σ => iz.wp (ARet P G) (Loops P G [] nt) Q ρ σ) a' w' → z.wp P R a' w' := fun h => wp_mono (cCode_D hcz hG h) hRD
  cases e with
  | normal => exact hz hq
  | exit i =>
    simp only [PostD, Post.blk, Exit.inBlock] at hq ⊢
    split
    · rename_i hi; simp only [hi, if_true] at hq; exact hz hq
    · rename_i hi; simp only [hi, if_false] at hq; exact hRD (.exit i) _ _ hq
  | ret => exact hRD .ret _ _ hq
  | goto l => exact hq.elim
  | panic c => exact hq.elim
  | outgrown => exact hq.elim

def PostF (nt : Nat) (F : Nat → Prop) (g0 : Gh) (w0 : World) (Q : Post) : Exit → Act → World → Prop := fun e a w => PostQ nt F g0 w0 [] Q e a w ∨ PostD nt F g0 w0 [] Q e a w

theorem aret_marks {f : FuncId} {fn : Func} {c : Code} {res : List Rv} {args : List Pv} {σ σ' : St} {r : Pv} (hlt : f < ynum) (hf : P.funcs[f]? = some fn) (hname : (fn.name == "runtime.NumGoroutine") = false) (hb : fn.body = some c) (hr : cRes P fn.ntmps fn.results.toList = some res) (hle : args.length ≤ fn.ntmps)
    (hw : ∀ (F : Nat → Prop) (g : Gh) (w : World) (a : Act), GL G g w → At fn.ntmps F g w [] (envOf args) σ a w → c.wp P (PostF fn.ntmps F g w (Done res σ r σ')) a w) : ARet P G f args σ r σ' := by
  refine ⟨⟨hlt, fn, hf, hname, by simp [hb]⟩, fun g w vs own F hG hsz hI => ?_⟩
  have hI0 : Inv g w σ (envOf args) (vs ++ Array.replicate (fn.ntmps - vs.size) undef) (fun p => match p with
      | .s t => if t < vs.size then own (.s t) else none
      | q => own q) F := by
    have key : ∀ p x, (match p with
      | .s t => if t < vs.size then own (.s t) else none
      | q => own q) = some x → own p = some x := by
      intro p x hp
      cases p with
      | s t => simp only at hp; split at hp <;> first | exact hp | cases hp
      | c b j => exact hp
      | b b => exact hp
    refine ⟨hI.gn, ?_, hI.box, hI.blk, fun p q x hp hq => hI.inj p q x (key p x hp) (key q x hq), fun p x hp => hI.dis p x (key p x hp), fun p x hp => hI.lt p x (key p x hp), hI.flt⟩
    intro t ht
    unfold envOf
    by_cases htv : t < vs.size
    · have := hI.slot t htv
      simp only [htv, if_true, Array.getD_eq_getD_getElem?] at this ⊢
      rw [Array.getElem?_append_left htv]
      exact this
    · simp only [htv, if_false, Array.getD_eq_getD_getElem?]
      rw [Array.getElem?_append_right (by omega)]
      have h1 : args.getD t .un = .un := by
        rw [List.getD_eq_getElem?_getD, List.getElem?_eq_none (by omega)]; rfl
      rw [h1]
      have h2 : (Array.replicate (fn.ntmps - vs.size) undef)[t - vs.size]?.getD undef = undef := by
        rw [Array.getElem?_replicate]; split <;> rfl
      rw [h2]
      exact .sh .un
  refine (callsIn_wide (n := 0)).1 (callsIn_of_wp_marks hf hb trivial ((wpIn_wide (n := 0)).2 (wp_mono (hw F g w _ hG ⟨g, _, hI0, Ext.refl g w, Fr.refl F g w, by simp; omega, rfl⟩) fun e a1 w1 hq => ?_)) rfl)
  have finQ : AtK fn.ntmps F g w [] (fun ρ1 σ1 => Fin res σ r σ' ρ1 σ1) a1 w1 → LeavesInM Fence.wide 0 P fn a1.tmps (fun e w' => ∃ v, e = .returned v ∧ ∃ g' own', Inv g' w' σ' (fun _ => r) #[v] own' F ∧ Ext g w g' w' ∧ Fr F g w g' w') a1.defers .returning w1 := by
    rintro ⟨ρ1, σ1, ⟨g1, own1, hI1, hE1, hF1, hn1, hds⟩, hfin⟩
    obtain ⟨v, hv, v', e, g', own', h1, h2, h3⟩ := fin_at (P := P) hr hI hI1 hE1 hF1 hn1 hfin
    cases e
    rw [hds]
    exact ⟨_, hv, _, rfl, g', own', h1, h2, h3⟩
  have finD : AtD fn.ntmps F g w [] (fun ρ1 σ1 => Fin res σ r σ' ρ1 σ1) a1 w1 → LeavesInM Fence.wide 0 P fn a1.tmps (fun e w' => ∃ v, e = .returned v ∧ ∃ g' own', Inv g' w' σ' (fun _ => r) #[v] own' F ∧ Ext g w g' w' ∧ Fr F g w g' w') a1.defers .returning w1 := by
    rintro ⟨D, ρ1, σ1, g1, own1, hI1, hE1, hF1, hn1, hds, hD, hz, hFD, hfin⟩
    rw [hds]
    refine ⟨by simp, .inl ⟨D, _, rfl, run_takeDeferred hD, ?_⟩⟩
    have hI2 := put_inv hI1 (.deferred none) (.inr rfl) hD rfl hz
    have hE2 := hE1.trans (ext_put (.deferred none) hD rfl hz)
    have hF2 : Fr F g w g1 (w1.putObj D (.deferred none)) := fun x hx => ⟨(World.putObj_heap_other (r := D) (k := x) (fun e => hFD (by rw [← e]; exact hx))).trans (hF1 x hx).1, (hF1 x hx).2⟩
    obtain ⟨v, hv, v', e, g', own', h1, h2, h3⟩ := fin_at (P := P) hr hI (inv_F hI2 (fun p x hp hx => hI2.dis p x hp (.inl hx)) fun x hx => hI2.flt x (.inl hx)) hE2 hF2 hn1 hfin
    cases e
    exact ⟨_, hv, _, rfl, g', own', h1, h2, h3⟩
  cases e with
  | normal => exact hq.elim finQ finD
  | ret => exact hq.elim finQ finD
  | exit id =>
    rcases hq with hq | hq
    · obtain ⟨_, _, _, hf⟩ := hq; exact hf.elim
    · obtain ⟨_, _, _, _, _, _, _, _, _, _, _, _, _, hf⟩ := hq; exact hf.elim
  | goto l => exact hq.elim (fun h => h) (fun h => h)
  | panic c => exact hq.elim (fun h => h.elim) (fun h => h.elim)
  | outgrown => exact hq.elim (fun h => h.elim) (fun h => h.elim)
end Gx

/- Part Gx30. -/
/- What holds without boxes holds beside any. -/
namespace Gx
open Go hiding sizeOf
variable {P : Program} {G : Nat → Option Obj}

theorem clean0_R {g : Gh} {w : World} {x : Pv} {v : Value} (h : R g w x v) (hc : clean 0 x = true) (bl : Nat → Nat) (n : Nat) : R ⟨g.z, bl, n⟩ w x v := by
  have h0 := h.restrict hc
  have e : Ext ⟨g.z, g.bl, 0⟩ w ⟨g.z, bl, n⟩ w := ⟨rfl, rfl, rfl, Nat.le_refl _, fun _ _ _ a b => ⟨a, b⟩, Nat.zero_le _, fun b hb => absurd hb (Nat.not_lt_zero b), fun _ _ a => ⟨a, rfl⟩⟩
  exact h0.mono e

theorem aret_frame {f : FuncId} {args : List Pv} {r : Pv} (h : ARet P G f args (toSt []) r (toSt [])) (ha : cleanL 0 args = true) (ha' : args.map Pv.shr = args) (hr : clean 0 r = true) (hr' : r.shr = r) (σ : St) : ARet P G f args σ r σ := by
  refine ⟨h.1, fun g w vs own F hG hsz hI => ?_⟩
  have hI0 : Inv ⟨g.z, g.bl, 0⟩ w (toSt []) (fun t => args.getD t .un) vs (fun _ => none) (fun x => F x ∨ ∃ p, own p = some x) := by
    refine ⟨rfl, fun t ht => ?_, fun b hb => absurd hb (Nat.not_lt_zero b), fun b hb => absurd hb (Nat.not_lt_zero b), fun p q x hp => (by cases hp), fun p x hp => (by cases hp), fun p x hp => (by cases hp), fun x hx => ?_⟩
    · have hlt : t < args.length := by omega
      have hS := (hI.slot t ht).shr
      have e : args.getD t .un = args[t] := by simp [hlt]
      rw [e] at hS ⊢
      have e2 : args[t].shr = args[t] := by
        have h1 : (args.map Pv.shr)[t]? = args[t]? := by rw [ha']
        simp [hlt] at h1
        exact h1
      rw [e2] at hS
      exact .sh (clean0_R hS (cleanL_iff.1 ha _ (List.getElem_mem hlt)) g.bl 0)
    · rcases hx with hx | ⟨p, hp⟩
      · exact hI.flt x hx
      · exact hI.lt p x hp
  refine Calls.mono (h.2 ⟨g.z, g.bl, 0⟩ w vs _ _ (fun b o hb => hG b o hb) hsz hI0) fun e w' hpost => ?_
  obtain ⟨v, rfl, g', own', hI', hE', hF'⟩ := hpost
  have hE : Ext g w ⟨g'.z, g.bl, g.n⟩ w' := ⟨hE'.os, hE'.tape, hE'.output, hE'.size, fun b o v hv hs => hE'.cell b o v hv hs, Nat.le_refl _, fun _ _ => rfl, fun b hb hz => hE'.froz b hb hz⟩
  have hv := (hI'.slot 0 (by simp)).shr
  rw [hr'] at hv
  refine ⟨v, rfl, ⟨g'.z, g.bl, g.n⟩, noSlot own, inv_slots (inv_ext hI hE rfl fun p x hp => hF' x (.inr ⟨p, hp⟩)) fun t ht => ?_, hE, fun x hx => hF' x (.inl hx)⟩
  obtain rfl : t = 0 := by simpa using ht
  exact .sh (clean0_R hv hr g.bl g.n)
end Gx
