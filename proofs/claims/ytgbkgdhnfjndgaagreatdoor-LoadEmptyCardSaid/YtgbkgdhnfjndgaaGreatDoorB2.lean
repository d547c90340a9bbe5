import Derived.Test.YtgbkgdhnfjndgaaGreatDoorB1
import Derived.IntWalk
import Derived.Laws.Append
import Derived.Laws.BytesArg
/- A part of the proof: a calculus of values over the model, and the functions that the statement reaches, each once, in that calculus. -/
set_option linter.all false
set_option linter.unusedSimpArgs false
set_option linter.unusedVariables false

/- Part Gx8. -/
/- The pure operations, sound. -/
namespace Gx
open Go hiding sizeOf

variable {P : Program} {g : Gh} {w : World} {σ : St} {ρ : Env} {a : Act} {own : Pl → Option Nat} {F : Nat → Prop} {nt : Nat}

theorem dstOf_some {nt : Nat} {o : Option Nat} {d : Nat} (h : dstOf nt o = some d) : o = some d ∧ d < nt := by
  cases o with
  | none => simp [dstOf] at h
  | some e =>
    simp only [dstOf] at h
    split at h
    · cases h; exact ⟨rfl, by assumption⟩
    · cases h

/-- What a pure operation gives. -/
def PureSnd (P : Program) (nt : Nat) (o : Oper) (ao : Ao) : Prop :=
  ∀ (C : Crel) (K : Env → St → Prop) (ρ : Env) (σ : St) (a : Act), a.tmps.size = nt → ∀ (g : Gh) (w : World) (own : Pl → Option Nat) (F : Nat → Prop), Inv g w σ ρ a.tmps own F → ao.wp C K ρ σ →
    ∃ d v x, o.dst = some d ∧ d < nt ∧ ao.dst = some d ∧ (∀ w', (execOp a.eval o).run P w' = .ok (.value v) w') ∧ K (put ρ d x) σ ∧ R g w x v

theorem ag_inv {cs : List Pv} {v : Value} (h : R g w (.agg cs) v) : ∃ vs, v = .agg vs ∧ RL g w cs vs := by
  cases h with
  | agg cs vs hl h => exact ⟨vs, rfl, hl, h⟩

theorem opt_cut {nt : Nat} {lo : Option Operand} {l : Option Od} (hl : odO nt lo = some l) (h : Inv g w σ ρ a.tmps own F) (hn : a.tmps.size = nt) (n d r : Nat) (hd : d ≤ n) (hc : cutAt n (l.map (·.ev ρ)) d = some r) :
    ∀ code w', (match lo.map a.eval with
      | some v => Instr.sliceBound v n code
      | none => pure d : Sem Nat).run P w' = .ok r w' ∧ r ≤ n := by
  intro code w'
  cases lo with
  | none =>
    simp only [odO, Option.some.injEq] at hl
    subst hl
    simp only [Option.map_none, cutAt, Option.some.injEq] at hc
    subst hc
    exact ⟨rfl, hd⟩
  | some x =>
    simp only [odO, Option.map_eq_some_iff] at hl
    obtain ⟨y, hy, rfl⟩ := hl
    simp only [Option.map_some] at hc ⊢
    have hp : ∀ o xs, y.ev ρ ≠ .sl o xs := by intro o xs he; rw [he] at hc; simp [cutAt] at hc
    have hr := od_plain h hn hy hp
    have hc' : cutAt n (some (y.ev ρ)) 0 = some r := by
      generalize y.ev ρ = q at hc
      cases q <;> simp only [cutAt] at hc ⊢ <;> exact hc
    exact bound_run hr code hc' w'

theorem parts_od {nt : Nat} {f : Nat → Option (Nat × Nat)} : ∀ {ps : List (Nat × Operand)} {qs : List (Nat × Nat × Od)}, partsOf nt f ps = some qs →
    ps.length = qs.length ∧ ∀ (i : Nat) p q, ps[i]? = some p → qs[i]? = some q → f p.1 = some (q.1, q.2.1) ∧ odOf nt p.2 = some q.2.2
  | [], qs, h => by simp only [partsOf, Option.some.injEq] at h; subst h; exact ⟨rfl, fun i p q hp => by simp at hp⟩
  | (i, x) :: ps, qs, h => by
    simp only [partsOf] at h
    split at h
    · rename_i o s y rs h1 h2 h3
      cases h
      obtain ⟨l, hr⟩ := parts_od h3
      refine ⟨by simp [l], fun j p q hp hq => ?_⟩
      cases j with
      | zero => simp only [List.getElem?_cons_zero, Option.some.injEq] at hp hq; subst hp; subst hq; exact ⟨h1, h2⟩
      | succ j => exact hr j p q (by simpa using hp) (by simpa using hq)
    · cases h

theorem ods_R {nt : Nat} (h : Inv g w σ ρ a.tmps own F) (hn : a.tmps.size = nt) : ∀ {xs : List Operand} {ys : List Od}, odsOf nt xs = some ys → xs.length = ys.length ∧ ∀ (i : Nat) x y, xs[i]? = some x → ys[i]? = some y → odOf nt x = some y
  | [], ys, hh => by simp only [odsOf, Option.some.injEq] at hh; subst hh; exact ⟨rfl, fun i x y hx => by simp at hx⟩
  | x :: xs, ys, hh => by
    simp only [odsOf] at hh
    split at hh
    · rename_i y zs h1 h2
      cases hh
      obtain ⟨l, hr⟩ := ods_R h hn h2
      refine ⟨by simp [l], fun j p q hp hq => ?_⟩
      cases j with
      | zero => simp only [List.getElem?_cons_zero, Option.some.injEq] at hp hq; subst hp; subst hq; exact h1
      | succ j => exact hr j p q (by simpa using hp) (by simpa using hq)
    · cases hh

theorem rowT_some {t e : TypeId} {sz bytes : Nat} (h : rowT P t = some (e, sz, bytes)) : P.underlying t = some (.slice e) ∧ (∃ i, P.info? e = some i ∧ i.size = sz ∧ i.bytes = bytes ∧ ∃ z, i.zero = some z ∧ z.cells.size = i.size) ∧ 0 < sz ∧ 0 < bytes ∧ bytes ≤ 16384 := by
  unfold rowT at h
  cases he : elemT P t with
  | none => rw [he] at h; cases h
  | some e' =>
    rw [he] at h
    simp only at h
    cases hi : P.info? e' with
    | none => rw [hi] at h; cases h
    | some i =>
      rw [hi] at h
      simp only at h
      split at h
      · rename_i hc
        cases h
        refine ⟨?_, ⟨i, hi, rfl, rfl, by have := hc.2.2.2; rw [Option.map_eq_some_iff] at this; exact this⟩, hc.1, hc.2.1, hc.2.2.1⟩
        unfold elemT at he
        split at he
        · cases he; assumption
        · cases he
      · cases h

theorem fieldsOf_some {t : TypeId} {fs : Array Field} (h : fieldsOf P t = some fs) : P.underlying t = some (.struct fs) := by
  unfold fieldsOf at h
  split at h
  · cases h; assumption
  · cases h

theorem pure_mv (o : Oper) (x : Operand) (ho : o.op = .move x ∨ o.op = .assign x) {d : Nat} {y : Od} (hd : dstOf nt o.dst = some d) (hy : odOf nt x = some y) : PureSnd P nt o (.mv d y) := by
  intro C K ρ σ a hn g w own F h hw
  obtain ⟨h1, h2⟩ := dstOf_some hd
  refine ⟨d, a.eval x, _, h1, h2, rfl, fun w' => ?_, hw, od_R h hn hy⟩
  rcases ho with ho | ho <;> simp [execOp, ho]

theorem pure_tk (o : Oper) (x : Operand) (ho : o.op = .move x ∨ o.op = .assign x) {d : Nat} {v : Pv} (hd : dstOf nt o.dst = some d) (hy : odOf nt x = some (.c v)) : PureSnd P nt o (.tk d (.c v)) := by
  intro C K ρ σ a hn g w own F h hw
  obtain ⟨h1, h2⟩ := dstOf_some hd
  refine ⟨d, a.eval x, v, h1, h2, rfl, fun w' => ?_, hw, ?_⟩
  · rcases ho with ho | ho <;> simp [execOp, ho]
  · cases x with
    | tmp t => simp only [odOf] at hy; split at hy <;> cases hy
    | const c =>
      simp only [odOf, Option.map_eq_some_iff] at hy
      obtain ⟨z, hz, he⟩ := hy
      cases he
      exact pvOf_R g w c v hz
    | global _ => simp [odOf] at hy
    | func f =>
      simp only [odOf] at hy
      split at hy
      · rename_i hlt
        cases hy
        exact .clo f [] [] _ _ rfl rfl (fun i x v hx _ => by simp at hx) (fun i x v hx _ => by simp at hx) hlt
      · cases hy

theorem pure_pk (o : Oper) (c x y : Operand) (ho : o.op = .pick c x y) {d : Nat} {c' x' y' : Od} (hd : dstOf nt o.dst = some d) (hc : odOf nt c = some c') (hx : odOf nt x = some x') (hy : odOf nt y = some y') :
    PureSnd P nt o (.pk d c' x' y') := by
  intro C K ρ σ a hn g w own F h hw
  obtain ⟨h1, h2⟩ := dstOf_some hd
  simp only [Ao.wp] at hw
  split at hw
  · rename_i he
    have hb := (od_plain h hn hc (by rw [he]; simp))
    rw [he] at hb
    have hb' := hb.bool_inv
    exact ⟨d, a.eval x, _, h1, h2, rfl, fun w' => by simp [execOp, ho, hb', asBool], hw, od_R h hn hx⟩
  · rename_i he
    have hb := (od_plain h hn hc (by rw [he]; simp))
    rw [he] at hb
    have hb' := hb.bool_inv
    exact ⟨d, a.eval y, _, h1, h2, rfl, fun w' => by simp [execOp, ho, hb', asBool], hw, od_R h hn hy⟩
  · exact hw.elim

theorem pure_nc (o : Oper) (x : Operand) (ho : o.op = .nilCheck x) {d : Nat} {y : Od} (hd : dstOf nt o.dst = some d) (hy : odOf nt x = some y) : PureSnd P nt o (.nc d y) := by
  intro C K ρ σ a hn g w own F h hw
  obtain ⟨h1, h2⟩ := dstOf_some hd
  simp only [Ao.wp] at hw
  split at hw
  · rename_i b off he
    have hr := (od_plain h hn hy (by rw [he]; simp))
    rw [he] at hr
    refine ⟨d, a.eval x, _, h1, h2, rfl, fun w' => ?_, hw, hr⟩
    generalize hv : a.eval x = v at hr
    cases hr
    simp [execOp, ho, hv]
  · rename_i cs off he
    have hr := (od_plain h hn hy (by rw [he]; simp))
    rw [he] at hr
    refine ⟨d, a.eval x, _, h1, h2, rfl, fun w' => ?_, hw, hr⟩
    generalize hv : a.eval x = v at hr
    cases hr
    simp [execOp, ho, hv]
  · rename_i f fs cs he
    have hr := (od_plain h hn hy (by rw [he]; simp))
    rw [he] at hr
    refine ⟨d, a.eval x, _, h1, h2, rfl, fun w' => ?_, hw, hr⟩
    generalize hv : a.eval x = v at hr
    cases hr <;> simp [execOp, ho, hv]
  · exact hw.elim

theorem bop_plain {op : BinOp} {x y v : Pv} (h : bop op x y = some v) : (∀ o xs, x ≠ .sl o xs) ∧ (∀ o xs, y ≠ .sl o xs) ∧ x ≠ .nili ∧ ∀ cs, x ≠ .agg cs := by
  cases x <;> cases y <;> simp [bop] at h ⊢

theorem pure_bi (o : Oper) (op : BinOp) (t t' : TypeId) (x y : Operand) (ho : o.op = .binOp op t x y t') {d : Nat} {x' y' : Od} (hd : dstOf nt o.dst = some d) (hx : odOf nt x = some x') (hy : odOf nt y = some y') :
    PureSnd P nt o (.bi d op x' y') := by
  intro C K ρ σ a hn g w own F h hw
  obtain ⟨h1, h2⟩ := dstOf_some hd
  simp only [Ao.wp] at hw
  split at hw
  · rename_i v he
    obtain ⟨p1, p2, p3, p4⟩ := bop_plain he
    have hrx := od_plain h hn hx p1
    have hry := od_plain h hn hy p2
    obtain ⟨c, hc, hcr⟩ := bop_run (P := P) t hrx hry he
    refine ⟨d, c, v, h1, h2, rfl, fun w' => ?_, hw, hcr g w⟩
    have hg := eqGuard_run (P := P) w' op t x y (a := a.eval x) (b := a.eval y) (fun hh => by
      rw [hh.1] at hrx
      generalize x'.ev ρ = q at hrx p3
      cases hrx
      exact p3 rfl) (fun xs hh => by
      rw [hh] at hrx
      generalize x'.ev ρ = q at hrx p4
      cases hrx
      exact p4 _ rfl)
    simp [execOp, ho, hg, hc w']
  · exact hw.elim

theorem beq_plain {b : Bool} {x y : Pv} {v : Bool} (h : beq b x y = some v) : (∀ o xs, x ≠ .sl o xs) ∧ (∀ o xs, y ≠ .sl o xs) ∧ x ≠ .nili ∧ (∀ cs, x ≠ .agg cs) := by
  cases x <;> cases y <;> simp [beq] at h ⊢

theorem pure_bq (o : Oper) (neg : Bool) (t t' : TypeId) (x y : Operand) (ho : o.op = .binOp (if neg then .neq else .eql) t x y t') {d : Nat} {x' y' : Od} {isB : Bool} (hd : dstOf nt o.dst = some d) (hx : odOf nt x = some x') (hy : odOf nt y = some y')
    (ht : if isB then P.underlying t = some .bool else ∃ e, P.underlying t = some (.pointer e)) : PureSnd P nt o (.bq d isB neg x' y') := by
  intro C K ρ σ a hn g w own F h hw
  obtain ⟨h1, h2⟩ := dstOf_some hd
  simp only [Ao.wp] at hw
  split at hw
  · rename_i v he
    obtain ⟨p1, p2, p3, p4⟩ := beq_plain he
    have hrx := od_plain h hn hx p1
    have hry := od_plain h hn hy p2
    have hc := beq_run (P := P) t ht hrx hry he
    refine ⟨d, .bool (v != neg), .bool (v != neg), h1, h2, rfl, fun w' => ?_, hw, .bool _⟩
    have hg := fun op => eqGuard_run (P := P) w' op t x y (a := a.eval x) (b := a.eval y) (fun hh => by
      rw [hh.1] at hrx
      generalize x'.ev ρ = q at hrx p3
      cases hrx
      exact p3 rfl) (fun xs hh => by
      rw [hh] at hrx
      generalize x'.ev ρ = q at hrx p4
      cases hrx
      exact p4 _ rfl)
    have hbin : ∀ op, (op = .eql ∨ op = .neq) → binOp op t (a.eval x) (a.eval y) = match op with
        | .eql => (do pure (.bool (← Op.equal t (a.eval x) (a.eval y))) : Sem Value)
        | _ => (do pure (.bool (!(← Op.equal t (a.eval x) (a.eval y)))) : Sem Value) := by
      intro op hop
      generalize a.eval x = u at hrx ⊢
      generalize a.eval y = v at hry ⊢
      generalize x'.ev ρ = q at hrx he
      generalize y'.ev ρ = r at hry he
      cases hrx <;> cases hry <;> simp only [beq] at he <;> (try (cases he; done)) <;> rcases hop with rfl | rfl <;> rfl
    cases neg with
    | false =>
      simp only [Bool.false_eq_true, if_false] at ho
      simp [execOp, ho, hg, hbin .eql (.inl rfl), hc w']
    | true =>
      simp only [if_true] at ho
      simp [execOp, ho, hg, hbin .neq (.inr rfl), hc w']
  · exact hw.elim

theorem pure_eq (o : Oper) (neg : Bool) (t t' : TypeId) (x y : Operand) (ho : o.op = .binOp (if neg then .neq else .eql) t x y t') {d : Nat} {x' y' : Od} {ks : List Nat} (hd : dstOf nt o.dst = some d) (hx : odOf nt x = some x') (hy : odOf nt y = some y')
    (ht : flatT P 8 t = some ks) (hg : P.eqGuardType P.depth t = false) (hs : scalarT P t = 0) : PureSnd P nt o (.eq d neg ks x' y') := by
  intro C K ρ σ a hn g w own F h hw
  obtain ⟨h1, h2⟩ := dstOf_some hd
  simp only [Ao.wp] at hw
  split at hw
  · rename_i xs ys hex hey
    split at hw
    · rename_i b hb
      have hrx := od_plain h hn hx (by rw [hex]; simp)
      have hry := od_plain h hn hy (by rw [hey]; simp)
      rw [hex] at hrx
      rw [hey] at hry
      obtain ⟨us, hus, rlx⟩ := ag_inv hrx
      obtain ⟨vs, hvs, rly⟩ := ag_inv hry
      have hst : ∃ fs, P.underlying t = some (.struct fs) := by
        unfold scalarT at hs
        rw [flatT] at ht
        cases hu : P.underlying t with
        | none => rw [hu] at ht; simp at ht
        | some u =>
          rw [hu] at ht hs
          cases u <;> first
            | exact ⟨_, rfl⟩
            | (simp at hs; done)
            | (simp at ht; done)
      obtain ⟨fs, hu⟩ := hst
      refine ⟨d, .bool (b != neg), .bool (b != neg), h1, h2, rfl, fun w' => ?_, hw, .bool _⟩
      have hrun := flat_run (P := P) (g := g) (w := w) w' 8 t ks ht xs ys us vs b rlx rly hb (.agg us) (.agg vs) (by simp [IsVal, hu]) (by simp [IsVal, hu]) 10000 (by omega)
      have hgd := fun op => run_eqGuard_agg (P := P) w' op t x y us vs hg
      cases neg with
      | false =>
        simp only [Bool.false_eq_true, if_false] at ho
        simp [execOp, ho, hus, hvs, hgd, run_eql_struct, hrun]
      | true =>
        simp only [if_true] at ho
        simp [execOp, ho, hus, hvs, hgd, run_neq_struct, hrun]
    · exact hw.elim
  · exact hw.elim

theorem pure_no (o : Oper) (op : UnOp) (t : TypeId) (x : Operand) (ho : o.op = .unOp op t x) {d : Nat} {x' : Od} (hd : dstOf nt o.dst = some d) (hx : odOf nt x = some x') : PureSnd P nt o (.no d op x') := by
  intro C K ρ σ a hn g w own F h hw
  obtain ⟨h1, h2⟩ := dstOf_some hd
  simp only [Ao.wp] at hw
  split at hw
  · rename_i v he
    have hp : ∀ o xs, x'.ev ρ ≠ .sl o xs := by
      intro o xs hh
      rw [hh] at he
      cases op <;> simp [uop] at he
    have hr := od_plain h hn hx hp
    generalize hv : a.eval x = u at hr
    generalize hq : x'.ev ρ = q at hr he
    cases op <;> cases hr <;> simp only [uop] at he <;> (try (cases he; done))
    · cases he
      exact ⟨d, _, _, h1, h2, rfl, fun w' => by simp [execOp, ho, hv, Op.unary, Op.intArith], hw, .int _ _⟩
    · cases he
      exact ⟨d, _, _, h1, h2, rfl, fun w' => by simp [execOp, ho, hv, Op.unary], hw, .bool _⟩
  · exact hw.elim

theorem pure_cvi (o : Oper) (s t : TypeId) (x : Operand) (ho : o.op = .convert s t x) {d : Nat} {x' : Od} {k k' : IntKind} (hd : dstOf nt o.dst = some d) (hx : odOf nt x = some x') (hs : P.underlying s = some (.int k'))
    (ht : P.underlying t = some (.int k)) : PureSnd P nt o (.cv d (.ints k) x') := by
  intro C K ρ σ a hn g w own F h hw
  obtain ⟨h1, h2⟩ := dstOf_some hd
  simp only [Ao.wp] at hw
  split at hw
  · rename_i hk he
    cases hk
    have hr := od_plain h hn hx (by rw [he]; simp)
    rw [he] at hr
    have hv := hr.int_inv
    exact ⟨d, _, _, h1, h2, rfl, fun w' => by simp [execOp, ho, hv, convert, run_underlying hs, run_underlying ht, Conv.intToInt], hw, .int _ _⟩
  all_goals first
    | exact hw.elim
    | (rename_i hk _; cases hk)

theorem pure_cvs (o : Oper) (s t : TypeId) (x : Operand) (ho : o.op = .convert s t x) {d : Nat} {x' : Od} (hd : dstOf nt o.dst = some d) (hx : odOf nt x = some x') (hs : P.underlying s = some .string)
    (ht : P.underlying t = some .string) : PureSnd P nt o (.cv d .same x') := by
  intro C K ρ σ a hn g w own F h hw
  obtain ⟨h1, h2⟩ := dstOf_some hd
  simp only [Ao.wp] at hw
  split at hw
  · rename_i hk _; cases hk
  · rename_i l _ he
    have hr := od_plain h hn hx (by rw [he]; simp)
    rw [he] at hr
    obtain ⟨z, hv, _, _⟩ := hr.str_inv
    exact ⟨d, a.eval x, _, h1, h2, rfl, fun w' => by simp [execOp, ho, hv, convert, run_underlying hs, run_underlying ht], hw, hr⟩
  all_goals first
    | exact hw.elim
    | (rename_i hk _; cases hk)

theorem ods_frz {nt : Nat} (h : Inv g w σ ρ a.tmps own F) (hn : a.tmps.size = nt) {xs : Array Operand} {ys : List Od} (hh : odsOf nt xs.toList = some ys) :
    (ys.map fun x => (x.ev ρ).frz).length = (xs.map a.eval).size ∧ ∀ (i : Nat) p v, (ys.map fun x => (x.ev ρ).frz)[i]? = some p → (xs.map a.eval)[i]? = some v → R g w p v := by
  obtain ⟨hl, hr⟩ := ods_R h hn hh
  refine ⟨by simp at hl ⊢; omega, fun i p v hp hv => ?_⟩
  rw [List.getElem?_map, Option.map_eq_some_iff] at hp
  rw [Array.getElem?_map, Option.map_eq_some_iff] at hv
  obtain ⟨y, hy, rfl⟩ := hp
  obtain ⟨x, hx, rfl⟩ := hv
  exact od_frz h hn (hr i x y (by simpa using hx) hy)

theorem pure_mf (o : Oper) (f : FuncId) (hlt : f < ynum) (first captured : Array Operand) (ho : o.op = .makeFunc (.func f) first captured) {d : Nat} {fs cs : List Od} (hd : dstOf nt o.dst = some d) (hf : odsOf nt first.toList = some fs)
    (hc : odsOf nt captured.toList = some cs) : PureSnd P nt o (.mf d f fs cs) := by
  intro C K ρ σ a hn g w own F h hw
  obtain ⟨h1, h2⟩ := dstOf_some hd
  obtain ⟨l1, r1⟩ := ods_frz h hn hf
  obtain ⟨l2, r2⟩ := ods_frz h hn hc
  exact ⟨d, _, _, h1, h2, rfl, fun w' => by simp [execOp, ho, Instr.makeFunc], hw, .clo f _ _ _ _ l1 l2 r1 r2 hlt⟩

theorem pure_ex (o : Oper) (x : Operand) (i : Nat) (ho : o.op = .extract x i) {d : Nat} {x' : Od} (hd : dstOf nt o.dst = some d) (hx : odOf nt x = some x') : PureSnd P nt o (.ex d x' i) := by
  intro C K ρ σ a hn g w own F h hw
  obtain ⟨h1, h2⟩ := dstOf_some hd
  simp only [Ao.wp] at hw
  split at hw
  · rename_i vs he
    split at hw
    · rename_i v hv
      have hr := od_plain h hn hx (by rw [he]; simp)
      rw [he] at hr
      generalize hu : a.eval x = u at hr
      cases hr with
      | tup cs us hl hh =>
        have hlt : i < us.size := by have := (List.getElem?_eq_some_iff.1 hv).1; omega
        refine ⟨d, us[i], _, h1, h2, rfl, fun w' => ?_, hw, (hh i v _ hv (by simp [hlt])).shr⟩
        simp [execOp, ho, hu, Instr.extract, hlt]
    · exact hw.elim
  · exact hw.elim

theorem pure_ln (o : Oper) (c : Call) (x : Operand) (t : TypeId) (ho : o.op = .call c) (hb : c.callee = .builtin .len) (ha : c.args = #[x]) (hat : c.argTypes = #[t]) {d : Nat} {x' : Od} {isS : Bool} (hd : dstOf nt o.dst = some d) (hx : odOf nt x = some x')
    (ht : if isS then P.underlying t = some .string else ∃ e, P.underlying t = some (.slice e)) : PureSnd P nt o (.ln d isS x') := by
  intro C K ρ σ a hn g w own F h hw
  obtain ⟨h1, h2⟩ := dstOf_some hd
  simp only [Ao.wp] at hw
  have hr := od_R h hn hx
  split at hw
  · rename_i s he
    obtain ⟨rfl, hw⟩ := hw
    simp only [if_true] at ht
    rw [he] at hr
    obtain ⟨z, hv, hz, hl⟩ := R.str_inv hr
    have hsz : (z.size : Int) = (s.length : Int) := by rw [size_data, hz]
    refine ⟨d, .int .i64 s.length, _, h1, h2, rfl, fun w' => ?_, hw hl, .int _ _⟩
    simp [execOp, ho, resolve, hb, ha, hat, hv, invoke, builtin, Builtin.len_, run_underlying ht, goInt, hsz]
  · rename_i o' xs he
    obtain ⟨rfl, hw⟩ := hw
    simp only [Bool.false_eq_true, if_false] at ht
    obtain ⟨e, ht⟩ := ht
    rw [he] at hr
    simp only [Pv.shr] at hr
    have key : ∃ ad cp, a.eval x = .slice ad xs.length cp ∧ xs.length ≤ 2 ^ 48 := by
      generalize a.eval x = u at hr
      cases hr with
      | slnil => exact ⟨_, _, rfl, by simp⟩
      | sl _ ad c k vs hsp hc hc2 => exact ⟨_, _, rfl, hc2⟩
    obtain ⟨ad, cp, hv, hl⟩ := key
    refine ⟨d, .int .i64 xs.length, _, h1, h2, rfl, fun w' => ?_, hw hl, .int _ _⟩
    simp [execOp, ho, resolve, hb, ha, hat, hv, invoke, builtin, Builtin.len_, run_underlying ht, goInt]
  · rename_i b off n he
    obtain ⟨rfl, hw⟩ := hw
    simp only [Bool.false_eq_true, if_false] at ht
    obtain ⟨e, ht⟩ := ht
    rw [he] at hr
    simp only [Pv.shr] at hr
    have key : ∃ ad cp, a.eval x = .slice ad n cp ∧ n ≤ 2 ^ 48 := by
      generalize a.eval x = u at hr
      cases hr with
      | bsl _ _ _ c _ hc hc2 => exact ⟨_, _, rfl, hc2⟩
    obtain ⟨ad, cp, hv, hl⟩ := key
    refine ⟨d, .int .i64 n, _, h1, h2, rfl, fun w' => ?_, hw hl, .int _ _⟩
    simp [execOp, ho, resolve, hb, ha, hat, hv, invoke, builtin, Builtin.len_, run_underlying ht, goInt]
  · exact hw.elim

theorem pure_mm (o : Oper) (c : Call) (x y : Operand) (mx : Bool) (ho : o.op = .call c) (hb : c.callee = .builtin (if mx then .max else .min)) (ha : c.args = #[x, y]) {d : Nat} {x' y' : Od} (hd : dstOf nt o.dst = some d) (hx : odOf nt x = some x')
    (hy : odOf nt y = some y') : PureSnd P nt o (.mm d mx x' y') := by
  intro C K ρ σ a hn g w own F h hw
  obtain ⟨h1, h2⟩ := dstOf_some hd
  simp only [Ao.wp] at hw
  split at hw
  · rename_i k p k' q hex hey
    have hrx := od_plain h hn hx (by rw [hex]; simp)
    have hry := od_plain h hn hy (by rw [hey]; simp)
    rw [hex] at hrx
    rw [hey] at hry
    have e1 := hrx.int_inv
    have e2 := hry.int_inv
    refine ⟨d, .int k (if mx then (if p < q then q else p) else (if q < p then q else p)), _, h1, h2, rfl, fun w' => ?_, hw, .int _ _⟩
    cases mx with
    | true => simp [execOp, ho, resolve, hb, ha, e1, e2, invoke, builtin, Builtin.max_, Builtin.max2]
    | false => simp [execOp, ho, resolve, hb, ha, e1, e2, invoke, builtin, Builtin.min_, Builtin.min2]
  · exact hw.elim

theorem pure_ix (o : Oper) (t : TypeId) (x i : Operand) (ho : o.op = .index t x i) (ht : P.underlying t = some .string) {d : Nat} {x' i' : Od} (hd : dstOf nt o.dst = some d) (hx : odOf nt x = some x') (hi : odOf nt i = some i') :
    PureSnd P nt o (.ix d x' i') := by
  intro C K ρ σ a hn g w own F h hw
  obtain ⟨h1, h2⟩ := dstOf_some hd
  simp only [Ao.wp] at hw
  split at hw
  · rename_i s k n hex hei
    split at hw
    · rename_i c hc
      obtain ⟨h0, hw⟩ := hw
      have hrx := od_plain h hn hx (by rw [hex]; simp)
      have hri := od_plain h hn hi (by rw [hei]; simp)
      rw [hex] at hrx
      rw [hei] at hri
      obtain ⟨z, hv, hz, _⟩ := hrx.str_inv
      have e2 := hri.int_inv
      have hget : z[n.toNat]? = some c := by
        rw [← hz] at hc
        simp only [Array.getElem?_toList] at hc
        have hlt : n.toNat < z.size := (Array.getElem?_eq_some_iff.1 hc).1
        have he := (Array.getElem?_eq_some_iff.1 hc).2
        rw [getElem?_pos z n.toNat hlt]
        exact congrArg some he
      refine ⟨d, .int .u8 c.toNat, _, h1, h2, rfl, fun w' => ?_, hw, .int _ _⟩
      simp [execOp, ho, hv, e2, Instr.index, asIntOf, run_underlying ht, h0, hget]
    · exact hw.elim
  · exact hw.elim

theorem pure_fa (o : Oper) (t : TypeId) (x : Operand) (i : Nat) (ho : o.op = .fieldAddr t x i) {d : Nat} {x' : Od} {fs : Array Field} {f : Field} {s : Nat} (hd : dstOf nt o.dst = some d) (hx : odOf nt x = some x')
    (hf : fieldsOf P t = some fs) (hfi : fs[i]? = some f) (hs : sizeT P f.type = some s) (h0 : 0 < s) : PureSnd P nt o (.fa d f.offset x') := by
  intro C K ρ σ a hn g w own F h hw
  obtain ⟨h1, h2⟩ := dstOf_some hd
  have hu := fieldsOf_some hf
  have hz := fun w' => run_sizeT (P := P) hs w'
  have hne : ¬ s = 0 := by omega
  simp only [Ao.wp] at hw
  split at hw
  · rename_i b off he
    have hr := (od_plain h hn hx (by rw [he]; simp))
    rw [he] at hr
    generalize hv : a.eval x = v at hr
    cases hr with
    | ptr _ _ hb =>
      refine ⟨d, .pointer (some ⟨g.bl b, off + f.offset, none⟩), _, h1, h2, rfl, fun w' => ?_, hw, .ptr b (off + f.offset) hb⟩
      have hadd : (⟨g.bl b, off, none⟩ : Addr).add f.offset = ⟨g.bl b, off + f.offset, none⟩ := by unfold Addr.add; split <;> simp_all
      simp [execOp, ho, hv, Instr.fieldAt, Instr.sureAddr, run_underlying hu, hfi, fieldPlace, hz w', hne, hadd]
  · rename_i cs off he
    have hr := (od_plain h hn hx (by rw [he]; simp))
    rw [he] at hr
    generalize hv : a.eval x = v at hr
    cases hr with
    | rptr _ _ b o' vs hc hh =>
      refine ⟨d, .pointer (some ⟨b, o' + (off + f.offset), none⟩), _, h1, h2, rfl, fun w' => ?_, hw, .rptr cs (off + f.offset) b o' vs hc hh⟩
      have hadd : (⟨b, o' + off, none⟩ : Addr).add f.offset = ⟨b, o' + (off + f.offset), none⟩ := by unfold Addr.add; split <;> simp_all [Nat.add_assoc]
      simp [execOp, ho, hv, Instr.fieldAt, Instr.sureAddr, run_underlying hu, hfi, fieldPlace, hz w', hne, hadd]
  · exact hw.elim

theorem pure_fi (o : Oper) (t : TypeId) (x : Operand) (i : Nat) (ho : o.op = .field t x i) {d : Nat} {x' : Od} {fs : Array Field} {f : Field} {ag : Option Nat} (hd : dstOf nt o.dst = some d) (hx : odOf nt x = some x')
    (hf : fieldsOf P t = some fs) (hfi : fs[i]? = some f) (hag : agOf P f.type = some ag) : PureSnd P nt o (.fi d f.offset ag x') := by
  intro C K ρ σ a hn g w own F h hw
  obtain ⟨h1, h2⟩ := dstOf_some hd
  have hu := fieldsOf_some hf
  simp only [Ao.wp] at hw
  split at hw
  · rename_i cs he
    split at hw
    · rename_i v hv
      have hr := (od_plain h hn hx (by rw [he]; simp))
      rw [he] at hr
      obtain ⟨vs, hvs, hl, hh⟩ := ag_inv hr
      obtain ⟨u, hu1, hu2⟩ := run_part (P := P) hag hl hh hv
      refine ⟨d, u, v, h1, h2, rfl, fun w' => ?_, hw, hu2⟩
      simp [execOp, ho, hvs, Instr.field, run_underlying hu, hfi, asAgg, hu1 w']
    · exact hw.elim
  · exact hw.elim

theorem pure_ia (o : Oper) (t : TypeId) (x i : Operand) (ho : o.op = .indexAddr t x i) {d : Nat} {x' i' : Od} {e : TypeId} {sz bytes : Nat} (hd : dstOf nt o.dst = some d) (hx : odOf nt x = some x') (hi : odOf nt i = some i')
    (ht : rowT P t = some (e, sz, bytes)) : PureSnd P nt o (.ia d sz x' i') := by
  intro C K ρ σ a hn g w own F h hw
  obtain ⟨h1, h2⟩ := dstOf_some hd
  obtain ⟨hu, ⟨ti, hti, hts, _⟩, _, _⟩ := rowT_some ht
  have hz := fun w' => run_sizeT (P := P) (t := e) (n := sz) (by simp [sizeT, hti, hts]) w'
  simp only [Ao.wp] at hw
  split at hw
  · rename_i o' xs k n hex hei
    split at hw
    · rename_i el hel
      obtain ⟨h0, hsz, hw⟩ := hw
      have hrx := od_R h hn hx
      rw [hex] at hrx
      have hri := od_plain h hn hi (by rw [hei]; simp)
      rw [hei] at hri
      have e2 := hri.int_inv
      simp only [Pv.shr] at hrx
      have hform : ∃ ad m c, a.eval x = .slice ad m c := by
        generalize a.eval x = u at hrx
        cases hrx with
        | slnil => exact ⟨_, _, _, rfl⟩
        | sl => exact ⟨_, _, _, rfl⟩
      obtain ⟨ad, m, c, hv⟩ := hform
      rw [hv] at hrx
      obtain ⟨hm, ad', had, hp⟩ := hrx.elem hel
      subst hm
      subst had
      have hlt : n < xs.length := by have := (List.getElem?_eq_some_iff.1 hel).1; omega
      rw [hsz] at hp
      refine ⟨d, _, _, h1, h2, rfl, fun w' => ?_, hw, hp⟩
      simp [execOp, ho, hv, e2, Instr.indexAt, asIntOf, run_underlying hu, h0, hlt, hz w']
    · exact hw.elim
  · rename_i b off m k n hex hei
    obtain ⟨h0, hlt, rfl, hw⟩ := hw
    have hrx := od_R h hn hx
    rw [hex] at hrx
    have hri := od_plain h hn hi (by rw [hei]; simp)
    rw [hei] at hri
    have e2 := hri.int_inv
    simp only [Pv.shr] at hrx
    generalize hv : a.eval x = u at hrx
    cases hrx with
    | bsl _ _ _ c hb hc hc2 =>
      refine ⟨d, .pointer (some ⟨g.bl b, off + n.toNat, none⟩), _, h1, h2, rfl, fun w' => ?_, hw, .ptr b (off + n.toNat) hb⟩
      have hadd : (⟨g.bl b, off, none⟩ : Addr).add (n.toNat) = ⟨g.bl b, off + n.toNat, none⟩ := by unfold Addr.add; split <;> simp_all
      simp [execOp, ho, hv, e2, Instr.indexAt, asIntOf, run_underlying hu, h0, hlt, hz w', hadd]
  · exact hw.elim

theorem pure_scs (o : Oper) (t : TypeId) (x : Operand) (lo hi mx : Option Operand) (ho : o.op = .slice t x lo hi mx) {d : Nat} {x' : Od} {lo' hi' mx' : Option Od} (hd : dstOf nt o.dst = some d) (hx : odOf nt x = some x')
    (hlo : odO nt lo = some lo') (hhi : odO nt hi = some hi') (hmx : odO nt mx = some mx') (ht : P.underlying t = some .string) : PureSnd P nt o (.sc d 0 x' lo' hi' mx') := by
  intro C K ρ σ a hn g w own F h hw
  obtain ⟨h1, h2⟩ := dstOf_some hd
  have hr := od_R h hn hx
  simp only [Ao.wp] at hw
  split at hw
  · rename_i s he
    obtain ⟨_, hm, hw⟩ := hw
    rw [he] at hr
    obtain ⟨z, hv, hz, hl⟩ := R.str_inv hr
    have hsz : z.size = s.length := by rw [size_data, hz]
    have hmn : mx = none := by
      cases mx with
      | none => rfl
      | some q =>
        simp only [odO, Option.map_eq_some_iff] at hmx
        obtain ⟨_, _, rfl⟩ := hmx
        simp at hm
    split at hw
    · rename_i hh hhc
      split at hw
      · rename_i ll hlc
        have c1 := fun code w' => opt_cut (P := P) hhi h hn s.length s.length hh (Nat.le_refl _) hhc code w'
        have hhl := (c1 .sliceAlen w).2
        have c2 := fun code w' => opt_cut (P := P) hlo h hn hh 0 ll (Nat.zero_le _) hlc code w'
        have hll := (c2 .sliceB w).2
        refine ⟨d, .string (z.extract ll hh), _, h1, h2, rfl, fun w' => ?_, hw, .str _ _ ?_ ?_⟩
        · have r1 := (c1 .sliceAlen w').1
          have r2 := (c2 .sliceB w').1
          rw [← hsz] at r1
          simp only [execOp, ho, hmn, hv, Option.map_none, Instr.sliceAt, Instr.slice, Instr.sliceBounds]
          cases hi with
          | none =>
            cases lo with
            | none =>
              simp only [Option.map_none, Sem.run_pure, Result.ok.injEq, and_true] at r1 r2
              subst r1
              subst r2
              simp [run_underlying ht, hsz]
              rw [← hsz]
              simp
            | some l =>
              simp only [Option.map_none, Option.map_some, Sem.run_pure, Result.ok.injEq, and_true] at r1 r2
              subst r1
              rw [hsz] at r2
              simp [run_underlying ht, hsz, r2]
          | some q =>
            simp only [Option.map_some] at r1
            rw [hsz] at r1
            cases lo with
            | none =>
              simp only [Option.map_none, Sem.run_pure, Result.ok.injEq, and_true] at r2
              subst r2
              simp [run_underlying ht, hsz, r1]
            | some l =>
              simp only [Option.map_some] at r2
              simp [run_underlying ht, hsz, r1, r2]
        · rw [ByteArray.data_extract, Array.toList_extract, hz]
          show (s.drop ll).take (hh - ll) = _
          rw [List.drop_take]
        · simp; omega
      · exact hw.elim
    · exact hw.elim
  · exact absurd hw.1 (by omega)
  · exact absurd hw.1 (by omega)
  · exact hw.elim

theorem bounds_run {nt : Nat} {lo hi : Option Operand} {lo' hi' : Option Od} (h : Inv g w σ ρ a.tmps own F) (hn : a.tmps.size = nt) (hlo : odO nt lo = some lo') (hhi : odO nt hi = some hi') {n c hh ll : Nat} (hnc : n ≤ c)
    (hhc : cutAt n (hi'.map (·.ev ρ)) n = some hh) (hlc : cutAt hh (lo'.map (·.ev ρ)) 0 = some ll) (w' : World) :
    (Instr.sliceBounds true n c (lo.map a.eval) (hi.map a.eval) none).run P w' = .ok (ll, hh, c) w' ∧ hh ≤ n ∧ ll ≤ hh := by
  have hhl := (opt_cut (P := P) hhi h hn n n hh (Nat.le_refl _) hhc .sliceAlen w').2
  have c2 := fun code w' => opt_cut (P := P) hlo h hn hh 0 ll (Nat.zero_le _) hlc code w'
  have hll := (c2 .sliceB w').2
  refine ⟨?_, hhl, hll⟩
  have r2 := (c2 .sliceB w').1
  -- the upper bound is asked of the capacity
  have r1 : (match hi.map a.eval with
      | some v => Instr.sliceBound v c .sliceAcap
      | none => pure n : Sem Nat).run P w' = .ok hh w' := by
    cases hi with
    | none =>
      simp only [odO, Option.some.injEq] at hhi
      subst hhi
      simp only [Option.map_none, cutAt, Option.some.injEq] at hhc
      subst hhc
      rfl
    | some x =>
      simp only [odO, Option.map_eq_some_iff] at hhi
      obtain ⟨y, hy, rfl⟩ := hhi
      simp only [Option.map_some] at hhc ⊢
      have hp : ∀ o xs, y.ev ρ ≠ .sl o xs := by intro o xs he; rw [he] at hhc; simp [cutAt] at hhc
      have hr := od_plain h hn hy hp
      generalize y.ev ρ = q at hhc hr
      cases q <;> simp only [cutAt] at hhc <;> (try (cases hhc; done))
      rename_i k i
      split at hhc
      · rename_i hc
        cases hhc
        have hcut : cutAt c (some (.int k i)) 0 = some i.toNat := by simp only [cutAt]; rw [if_pos ⟨hc.1, by omega⟩]
        exact (bound_run hr .sliceAcap hcut w').1
      · cases hhc
  simp only [Instr.sliceBounds]
  cases hi with
  | none =>
    simp only [Option.map_none, Sem.run_pure, Result.ok.injEq, and_true] at r1
    subst r1
    cases lo with
    | none =>
      simp only [Option.map_none, Sem.run_pure, Result.ok.injEq, and_true] at r2
      subst r2
      simp
    | some l =>
      simp only [Option.map_some] at r2
      simp [r2]
  | some q =>
    simp only [Option.map_some] at r1
    cases lo with
    | none =>
      simp only [Option.map_none, Sem.run_pure, Result.ok.injEq, and_true] at r2
      subst r2
      simp [r1]
    | some l =>
      simp only [Option.map_some] at r2
      simp [r1, r2]

theorem pure_scl (o : Oper) (t : TypeId) (x : Operand) (lo hi mx : Option Operand) (ho : o.op = .slice t x lo hi mx) {d : Nat} {x' : Od} {lo' hi' mx' : Option Od} {e : TypeId} {sz bytes : Nat} (hd : dstOf nt o.dst = some d) (hx : odOf nt x = some x')
    (hlo : odO nt lo = some lo') (hhi : odO nt hi = some hi') (hmx : odO nt mx = some mx') (ht : rowT P t = some (e, sz, bytes)) : PureSnd P nt o (.sc d sz x' lo' hi' mx') := by
  intro C K ρ σ a hn g w own F h hw
  obtain ⟨h1, h2⟩ := dstOf_some hd
  obtain ⟨hu, ⟨ti, hti, hts, _⟩, h0, _⟩ := rowT_some ht
  have hz := fun w' => run_sizeT (P := P) (t := e) (n := sz) (by simp [sizeT, hti, hts]) w'
  have hr := od_R h hn hx
  have hnone : mx'.isNone = true → mx = none := by
    intro hm
    cases mx with
    | none => rfl
    | some q =>
      simp only [odO, Option.map_eq_some_iff] at hmx
      obtain ⟨_, _, rfl⟩ := hmx
      simp at hm
  simp only [Ao.wp] at hw
  split at hw
  · exact absurd hw.1 (by omega)
  · rename_i o' xs he
    obtain ⟨_, hm, hxs, hw⟩ := hw
    have hmn := hnone hm
    rw [he] at hr
    simp only [Pv.shr] at hr
    have hform : ∃ ad m c, a.eval x = .slice ad m c := by
      generalize a.eval x = u at hr
      cases hr with
      | slnil => exact ⟨_, _, _, rfl⟩
      | sl => exact ⟨_, _, _, rfl⟩
    obtain ⟨ad, m, c, hv⟩ := hform
    rw [hv] at hr
    split at hw
    · rename_i hh hhc
      split at hw
      · rename_i ll hlc
        have hmc : m = xs.length ∧ m ≤ c := by
          cases hr with
          | slnil => exact ⟨rfl, Nat.le_refl _⟩
          | sl _ _ _ _ _ _ hc => exact ⟨rfl, hc⟩
        obtain ⟨rfl, hmc⟩ := hmc
        have hb := fun w' => bounds_run (P := P) h hn hlo hhi hmc hhc hlc w'
        obtain ⟨_, hhl, hll⟩ := hb w
        obtain ⟨_, _, hcut⟩ := hr.cut h0 hxs hhl hll
        refine ⟨d, _, _, h1, h2, rfl, fun w' => ?_, hw, hcut⟩
        simp [execOp, ho, hmn, hv, Instr.sliceAt, Instr.slice, run_underlying hu, (hb w').1, hz w']
      · exact hw.elim
    · exact hw.elim
  · rename_i b off n he
    obtain ⟨rfl, hm, hw⟩ := hw
    have hmn := hnone hm
    rw [he] at hr
    simp only [Pv.shr] at hr
    have hform : ∃ ad m c, a.eval x = .slice ad m c := by
      generalize a.eval x = u at hr
      cases hr with
      | bsl => exact ⟨_, _, _, rfl⟩
    obtain ⟨ad, m, c, hv⟩ := hform
    rw [hv] at hr
    split at hw
    · rename_i hh hhc
      split at hw
      · rename_i ll hlc
        have hmc : m = n ∧ m ≤ c := by
          cases hr with
          | bsl _ _ _ _ _ hc => exact ⟨rfl, hc⟩
        obtain ⟨rfl, hmc⟩ := hmc
        have hb := fun w' => bounds_run (P := P) h hn hlo hhi hmc hhc hlc w'
        obtain ⟨_, hhl, hll⟩ := hb w
        obtain ⟨_, _, hcut⟩ := hr.bslcut (lo := ll) hhl
        by_cases hlt : ll < hh
        · rw [if_pos hlt] at hw
          refine ⟨d, _, _, h1, h2, rfl, fun w' => ?_, hw, hcut hlt⟩
          simp [execOp, ho, hmn, hv, Instr.sliceAt, Instr.slice, run_underlying hu, (hb w').1, hz w']
        · rw [if_neg hlt] at hw
          have had : ∃ q : Addr, ad = some q ∧ q.spot = none := by
            cases hr with
            | bsl => exact ⟨_, rfl, rfl⟩
          obtain ⟨q, rfl, hsp⟩ := had
          refine ⟨d, .slice (some (if c = ll then q else q.add (ll * 1))) 0 (c - ll), _, h1, h2, rfl, fun w' => ?_, hw, ?_⟩
          · have h00 : hh - ll = 0 := by omega
            simp only [execOp, ho, hmn, hv, Option.map_none, Instr.sliceAt, Instr.slice]
            simp [run_underlying hu, (hb w').1, hz w', h00]
            split <;> rfl
          · refine R.sl (g := g) (w := w) [] _ (c - ll) 1 (fun _ => undef) ?_ (by simp) (by simp) (by omega) (by simp) (fun j hj => by simp at hj) fun j x hj => by simp at hj
            split
            · exact hsp
            · unfold Addr.add; split <;> simp [hsp]
      · exact hw.elim
    · exact hw.elim
  · exact hw.elim

theorem zeroOf_val {t : TypeId} {z : List Pv} (h : zeroOf P t = some z) : ∃ i zv, P.info? t = some i ∧ i.zero = some zv ∧ ∀ g w, RL g w z zv.cells := by
  unfold zeroOf at h
  cases hi : P.info? t with
  | none => rw [hi] at h; cases h
  | some i =>
    rw [hi] at h
    cases hz : i.zero with
    | none => simp only [hz] at h; cases h
    | some zv =>
      simp only [hz] at h
      refine ⟨i, zv, rfl, hz, fun g w => ?_⟩
      obtain ⟨h1, h2⟩ := pvOfs_R g w zv.cells.toList z h
      exact ⟨by simpa using h1, fun i x v hx hv => h2 i x v hx (by simpa using hv)⟩

theorem pure_bd (o : Oper) (t : TypeId) (ps : Array (Nat × Operand)) (ho : o.op = .build t ps) {d : Nat} {fs : Array Field} {pl : List (Nat × Nat)} {z : List Pv} {qs : List (Nat × Nat × Od)} (hd : dstOf nt o.dst = some d)
    (hf : fieldsOf P t = some fs) (hpl : (fs.toList.mapM fun f => (P.info? f.type).map fun i => (f.offset, i.size)) = some pl) (hz : zeroOf P t = some z) (hq : partsOf nt (pl.toArray[·]?) ps.toList = some qs) :
    PureSnd P nt o (.bd d z qs) := by
  intro C K ρ σ a hn g w own F h hw
  obtain ⟨h1, h2⟩ := dstOf_some hd
  have hu := fieldsOf_some hf
  obtain ⟨i, zv, hi, hzv, hRL⟩ := zeroOf_val hz
  obtain ⟨hl, hp⟩ := parts_od hq
  simp only [Ao.wp] at hw
  split at hw
  · rename_i cs hcs
    obtain ⟨cv, hcv, hr⟩ := fill_run (g := g) (w := w) (pl.toArray[·]?) (ps.toList.map fun p => (p.1, a.eval p.2)) (qs.map fun p => (p.1, p.2.1, (p.2.2.ev ρ).shr)) z zv.cells cs (hRL g w) (by simp [hl]) (by
      intro j p q hpj hqj
      rw [List.getElem?_map, Option.map_eq_some_iff] at hpj hqj
      obtain ⟨p', hp', rfl⟩ := hpj
      obtain ⟨q', hq', rfl⟩ := hqj
      obtain ⟨e1, e2⟩ := hp j p' q' hp' hq'
      exact ⟨e1, od_R h hn e2⟩) hcs
    refine ⟨d, .agg cv, .agg cs, h1, h2, rfl, fun w' => ?_, hw, .agg cs cv hr.1 hr.2⟩
    have hb : P.built t (ps.toList.map fun p => (p.1, a.eval p.2)) = some cv := by
      unfold Program.built
      simp only [hi, hu, hzv, hpl]
      exact hcv
    have hrun := run_build (P := P) w' t (ps.map fun p => (p.1, a.eval p.2)) cv (by simpa using hb)
    simp [execOp, ho, hrun]
  · exact hw.elim

end Gx

/- Part Gx9. -/
/- The operations that read and write boxes, make memory, and call. -/
namespace Gx
open Go hiding sizeOf

variable {P : Program} {g : Gh} {w : World} {σ : St} {ρ : Env} {a : Act} {own : Pl → Option Nat} {F : Nat → Prop} {nt : Nat}

/-- What is known from the start of the call: the blocks of the package's variables. -/
def GL (G : Nat → Option Obj) (g : Gh) (w : World) : Prop := ∀ b o, G b = some o → g.z b = none ∧ w.heap[b]? = some o
theorem GL.mono {G : Nat → Option Obj} {g g' : Gh} {w w' : World} (h : GL G g w) (e : Ext g w g' w') : GL G g' w' := fun b o hb => by
  obtain ⟨h1, h2⟩ := h b o hb
  obtain ⟨h3, h4⟩ := e.froz b (Array.getElem?_eq_some_iff.1 h2).1 h1
  exact ⟨h3, h4.trans h2⟩

def Enters (P : Program) (f : FuncId) : Prop := f < ynum ∧ ∃ fn, P.funcs[f]? = some fn ∧ (fn.name == "runtime.NumGoroutine") = false ∧ fn.body.isSome = true

/-- A function's contract: called with these values and boxes it returns that value and leaves those boxes. -/
def ARet (P : Program) (G : Nat → Option Obj) (f : FuncId) (args : List Pv) (σ : St) (r : Pv) (σ' : St) : Prop :=
  Enters P f ∧ ∀ (g : Gh) (w : World) (vs : Array Value) (own : Pl → Option Nat) (F : Nat → Prop), GL G g w → vs.size = args.length → Inv g w σ (fun t => args.getD t .un) vs own F →
    Calls P f vs w fun e w' => ∃ v, e = .returned v ∧ ∃ g' own', Inv g' w' σ' (fun _ => r) #[v] own' F ∧ Ext g w g' w' ∧ Fr F g w g' w'

/-- A state that a piece of code may come to. -/
def Lift (nt : Nat) (F : Nat → Prop) (g : Gh) (w : World) (ds : List Deferred) (K : Env → St → Prop) (a' : Act) (w' : World) : Prop :=
  ∃ ρ' σ' g' own', Inv g' w' σ' ρ' a'.tmps own' F ∧ Ext g w g' w' ∧ Fr F g w g' w' ∧ K ρ' σ' ∧ a'.tmps.size = nt ∧ a'.defers = ds

/-- An operation that gives a value, or nothing. -/
def RunSnd (P : Program) (nt : Nat) (o : Oper) (ao : Ao) : Prop :=
  ∀ (C : Crel) (K : Env → St → Prop) (ρ : Env) (σ : St) (a : Act), a.tmps.size = nt → ∀ (g : Gh) (w : World) (own : Pl → Option Nat) (F : Nat → Prop), Inv g w σ ρ a.tmps own F → ao.wp C K ρ σ →
    (∃ v w', (execOp a.eval o).run P w = .ok (.value v) w' ∧ Lift nt F g w a.defers K (a.put o.dst v) w') ∨ (∃ w', (execOp a.eval o).run P w = .ok .skip w' ∧ Lift nt F g w a.defers K (a.put o.dst undef) w')

theorem put_tmps {d : Nat} {v : Value} : (a.put (some d) v).tmps = a.tmps.setIfInBounds d v := rfl

theorem Lift.mk {o : Oper} {d : Nat} {v : Value} {g' : Gh} {w' : World} {σ' : St} {ρ' : Env} {own' : Pl → Option Nat} {K : Env → St → Prop} (h1 : o.dst = some d) (hI : Inv g' w' σ' ρ' (a.tmps.setIfInBounds d v) own' F)
    (hE : Ext g w g' w') (hF : Fr F g w g' w') (hK : K ρ' σ') (hn : a.tmps.size = nt) : Lift nt F g w a.defers K (a.put o.dst v) w' := by
  rw [h1]
  exact ⟨ρ', σ', g', own', hI, hE, hF, hK, by simp [Act.put, hn], rfl⟩

theorem PureSnd.run {o : Oper} {ao : Ao} (h : PureSnd P nt o ao) : RunSnd P nt o ao := by
  intro C K ρ σ a hn g w own F hi hw
  obtain ⟨d, v, x, h1, h2, _, h3, h4, h5⟩ := h C K ρ σ a hn g w own F hi hw
  exact .inl ⟨v, w, h3 w, Lift.mk h1 (hi.put d h5) (Ext.refl g w) (Fr.refl F g w) h4 hn⟩

theorem run_tk (o : Oper) (s : Nat) (ho : o.op = .move (.tmp s) ∨ o.op = .assign (.tmp s)) {d : Nat} (hd : dstOf nt o.dst = some d) (hs : s < nt) : RunSnd P nt o (.tk d (.t s)) := by
  intro C K ρ σ a hn g w own F h hw
  obtain ⟨h1, h2⟩ := dstOf_some hd
  refine .inl ⟨a.tmps.getD s undef, w, ?_, Lift.mk h1 (h.take s d (by omega)) (Ext.refl g w) (Fr.refl F g w) hw hn⟩
  rcases ho with ho | ho <;> simp [execOp, ho, Act.eval]

theorem run_al (o : Oper) (t : TypeId) (ho : o.op = .alloc t) {d : Nat} {z : List Pv} (hd : dstOf nt o.dst = some d) (hz : zeroOf P t = some z) : RunSnd P nt o (.al d t z) := by
  intro C K ρ σ a hn g w own F h hw
  obtain ⟨h1, h2⟩ := dstOf_some hd
  obtain ⟨i, zv, hi, hzv, hRL⟩ := zeroOf_val hz
  have hR := hRL g w
  obtain ⟨g', own', hI, hE, hF, hP, _, _⟩ := h.push z zv.cells t hR.1.symm (fun j x hj => by
    have hlt : j < zv.cells.size := by have := (List.getElem?_eq_some_iff.1 hj).1; have := hR.1; omega
    exact ⟨zv.cells[j], by simp [hlt], hR.2 j x _ hj (by simp [hlt])⟩)
  refine .inl ⟨.pointer (some ⟨w.heap.size, 0, none⟩), w.alloc (.cells zv.cells t), ?_, Lift.mk h1 (hI.put d hP) hE hF hw hn⟩
  simp [execOp, ho, Instr.alloc, zeroValue, typeInfo, hi, hzv, newVar, newRow]

theorem cells_shr (x : Pv) (j : Nat) (y : Pv) (h : (x.cells.map Pv.shr)[j]? = some y) : ∃ z, x.shr.cells[j]? = some z ∧ y = z.shr := by
  rw [List.getElem?_map, Option.map_eq_some_iff] at h
  obtain ⟨z, hz, rfl⟩ := h
  cases x <;> simp only [Pv.cells, Pv.shr] at hz ⊢ <;> first
    | exact ⟨z, hz, rfl⟩
    | (cases j with
       | zero => simp only [List.getElem?_cons_zero, Option.some.injEq] at hz; subst hz; exact ⟨_, rfl, rfl⟩
       | succ j => simp at hz)

theorem cells_shr_len (x : Pv) : x.shr.cells.length = x.cells.length := by cases x <;> rfl

theorem run_bx (o : Oper) (t : TypeId) (x : Operand) (ho : o.op = .box t x) {d n : Nat} {x' : Od} (hd : dstOf nt o.dst = some d) (hx : odOf nt x = some x') : RunSnd P nt o (.bx d t n x') := by
  intro C K ρ σ a hn g w own F h hw
  obtain ⟨h1, h2⟩ := dstOf_some hd
  obtain ⟨_, hw⟩ := hw
  have hr := od_R h hn hx
  obtain ⟨c1, c2⟩ := hr.cells
  rw [cells_shr_len] at c1
  obtain ⟨g', own', hI, hE, hF, hP, _, _⟩ := h.push ((x'.ev ρ).cells.map Pv.shr) (a.eval x).cells t (by simp [c1]) (fun j y hj => by
    obtain ⟨z, hz, rfl⟩ := cells_shr _ j y hj
    obtain ⟨u, hu, hru⟩ := c2 j z hz
    exact ⟨u, hu, hru.shr⟩)
  refine .inl ⟨.pointer (some ⟨w.heap.size, 0, none⟩), w.alloc (.cells (a.eval x).cells t), ?_, Lift.mk h1 (hI.put d hP) hE hF hw hn⟩
  simp [execOp, ho, Instr.box, newVar, newRow]

/-- What a load gives. -/
theorem load_run {t : TypeId} {ag : Option Nat} (ht : agOf P t = some ag) {cs : List Pv} {b o off : Nat} {vs : Nat → Value} (hc : ∀ j, j < cs.length → w.cell? ⟨b, o + j, none⟩ = some (vs j)) (hr : ∀ (j : Nat) x, cs[j]? = some x → R g w x.shr (vs j))
    {v : Pv} (h : offs cs off ag = some v) : ∃ u, (loadVar t ⟨b, o + off, none⟩).run P w = .ok u w ∧ R g w v u := by
  have h1 := (run_isAgg ht w).1
  have h2 := (run_isAgg ht w).2
  have hadd : ∀ j, (⟨b, o + off, none⟩ : Addr).add j = ⟨b, o + (off + j), none⟩ := fun j => by unfold Addr.add; split <;> simp_all [Nat.add_assoc]
  cases ag with
  | some n =>
    simp only [offs] at h
    split at h
    · rename_i hle
      cases h
      have hl := run_loadCells (P := P) w ⟨b, o + off, none⟩ n (fun j => vs (off + j)) (fun j hj => by rw [hadd]; exact hc (off + j) (by omega))
      refine ⟨_, by simp [loadVar, h1, h2 n rfl, hl]; rfl, ?_⟩
      refine .agg _ _ (by simp; omega) fun i x u hx hu => ?_
      rw [List.getElem?_map, List.getElem?_take, List.getElem?_drop] at hx
      split at hx
      · rename_i hi
        cases hcc : cs[off + i]? with
        | none => rw [hcc] at hx; cases hx
        | some y =>
          rw [hcc] at hx
          simp only [Option.map_some, Option.some.injEq] at hx
          subst hx
          have := hr _ y hcc
          simp [hi] at hu
          subst hu
          exact this
      · cases hx
    · cases h
  | none =>
    simp only [offs] at h
    cases hcc : cs[off]? with
    | none => rw [hcc] at h; cases h
    | some y =>
      rw [hcc] at h
      simp only [Option.map_some, Option.some.injEq] at h
      subst h
      have hlt := (List.getElem?_eq_some_iff.1 hcc).1
      exact ⟨vs off, by simp [loadVar, h1, run_load, hc off hlt], hr off y hcc⟩

theorem run_ld (o : Oper) (t : TypeId) (x : Operand) (ho : o.op = .load t x) {d : Nat} {ag : Option Nat} {x' : Od} (hd : dstOf nt o.dst = some d) (hx : odOf nt x = some x') (ht : agOf P t = some ag) : RunSnd P nt o (.ld d ag x') := by
  intro C K ρ σ a hn g w own F h hw
  obtain ⟨h1, h2⟩ := dstOf_some hd
  simp only [Ao.wp] at hw
  split at hw
  · rename_i b off he
    split at hw
    · rename_i v hv
      have hr := od_plain h hn hx (by rw [he]; simp)
      rw [he] at hr
      generalize hu : a.eval x = u at hr
      cases hr with
      | ptr _ _ hb =>
        obtain ⟨vs, el, b1, b2, b3, b4⟩ := h.box b (h.gn ▸ hb)
        obtain ⟨u, hu1, hu2⟩ := load_run (P := P) (g := g) (w := w) ht (cs := σ.m b) (b := g.bl b) (o := 0) (off := off) (vs := fun j => vs.getD j undef) (fun j hj => by
          have hlt : j < vs.size := by omega
          simp [World.cell?, b1, hlt]) (fun j x hj => by
          obtain ⟨v, hv, hS⟩ := b4 j x hj
          simp only [Array.getD_eq_getD_getElem?, hv, Option.getD_some]
          exact hS.shr) hv
        refine .inl ⟨u, w, ?_, Lift.mk h1 (h.put d hu2) (Ext.refl g w) (Fr.refl F g w) hw hn⟩
        simp only [Nat.zero_add] at hu1
        simp [execOp, ho, hu, Instr.loadAt, Instr.sureAddr, hu1]
    · exact hw.elim
  · rename_i cs off he
    split at hw
    · rename_i v hv
      have hr := od_plain h hn hx (by rw [he]; simp)
      rw [he] at hr
      generalize hu : a.eval x = u at hr
      cases hr with
      | rptr _ _ b o' vs hc hh =>
        obtain ⟨u, hu1, hu2⟩ := load_run (P := P) (g := g) (w := w) ht (cs := cs) (b := b) (o := o') (off := off) (vs := vs) (fun j hj => (hc j hj).1) (fun j x hj => (hh j x hj).shr) hv
        refine .inl ⟨u, w, ?_, Lift.mk h1 (h.put d hu2) (Ext.refl g w) (Fr.refl F g w) hw hn⟩
        simp [execOp, ho, hu, Instr.loadAt, Instr.sureAddr, hu1]
    · exact hw.elim
  · exact hw.elim

/-- A row that a box's cell owned goes to a slot. -/
theorem Inv.takeCell (h : Inv g w σ ρ a.tmps own F) (b j d : Nat) (hb : b < σ.n) {x : Pv} (hx : (σ.m b)[j]? = some x) : ∃ v el vs, w.heap[g.bl b]? = some (.cells vs el (0, 0)) ∧ vs[j]? = some v ∧
    ∃ own', Inv g w (σ.set b ((σ.m b).set j x.shr)) (Gx.put ρ d x) (a.tmps.setIfInBounds d v) own' F := by
  obtain ⟨vs, el, b1, b2, b3, b4⟩ := h.box b hb
  obtain ⟨v, hv, hS⟩ := b4 j x hx
  refine ⟨v, el, vs, b1, hv, fun p => if p = .s d then own (.c b j) else if p = .c b j then none else own p, ?_⟩
  have key : ∀ p y, (if p = .s d then own (.c b j) else if p = .c b j then none else own p) = some y → (p = .s d ∧ own (.c b j) = some y) ∨ (p ≠ .s d ∧ p ≠ .c b j ∧ own p = some y) := by
    intro p y hp
    by_cases h1 : p = .s d
    · rw [if_pos h1] at hp; exact .inl ⟨h1, hp⟩
    · rw [if_neg h1] at hp
      by_cases h2 : p = .c b j
      · simp [h2] at hp
      · rw [if_neg h2] at hp; exact .inr ⟨h1, h2, hp⟩
  refine ⟨h.gn, ?_, ?_, ?_, ?_, ?_, ?_, h.flt⟩
  · intro t ht
    simp only [Array.size_setIfInBounds] at ht
    by_cases hd : t = d
    · subst hd
      simp only [put_same, if_true, Array.getD_eq_getD_getElem?]
      rw [Array.getElem?_setIfInBounds_self_of_lt ht]
      exact hS
    · rw [put_ne _ _ hd, if_neg (by simpa using hd), if_neg (by simp)]
      have := h.slot t ht
      rw [Array.getD_eq_getD_getElem?] at this ⊢
      rw [Array.getElem?_setIfInBounds_ne (by omega)]
      exact this
  · intro b' hb'
    by_cases hbb : b' = b
    · subst hbb
      simp only [St.set, if_true, reduceCtorEq, if_false]
      refine ⟨vs, el, b1, by simpa using b2, b3, fun i y hy => ?_⟩
      by_cases hij : i = j
      · subst hij
        have hlt := (List.getElem?_eq_some_iff.1 hx).1
        rw [List.getElem?_set_self hlt] at hy
        cases hy
        exact ⟨v, hv, by simp only [if_true]; exact .sh hS.shr⟩
      · rw [List.getElem?_set_ne (by omega)] at hy
        obtain ⟨u, hu, hSu⟩ := b4 i y hy
        exact ⟨u, hu, by rw [if_neg (by simpa using hij)]; exact hSu⟩
    · simp only [St.set, hbb, if_false, reduceCtorEq]
      have : (fun i => if Pl.c b' i = Pl.c b j then none else own (.c b' i)) = fun i => own (.c b' i) := funext fun i => by rw [if_neg (by simp [hbb])]
      rw [this]
      exact h.box b' hb'
  · intro b' hb'
    simpa using h.blk b' hb'
  · intro p q y hp hq
    rcases key p y hp with ⟨hp1, hp2⟩ | ⟨hp1, hp2, hp3⟩ <;> rcases key q y hq with ⟨hq1, hq2⟩ | ⟨hq1, hq2, hq3⟩
    · rw [hp1, hq1]
    · exact absurd (h.inj _ _ y hp2 hq3).symm hq2
    · exact absurd (h.inj _ _ y hq2 hp3).symm hp2
    · exact h.inj _ _ y hp3 hq3
  · intro p y hp
    rcases key p y hp with ⟨_, hp2⟩ | ⟨_, _, hp3⟩
    · exact h.dis _ y hp2
    · exact h.dis _ y hp3
  · intro p y hp
    rcases key p y hp with ⟨_, hp2⟩ | ⟨_, _, hp3⟩
    · exact h.lt _ y hp2
    · exact h.lt _ y hp3

theorem run_lt (o : Oper) (t : TypeId) (x : Operand) (ho : o.op = .load t x) {d : Nat} {x' : Od} (hd : dstOf nt o.dst = some d) (hx : odOf nt x = some x') (ht : agOf P t = some none) : RunSnd P nt o (.lt d x') := by
  intro C K ρ σ a hn g w own F h hw
  obtain ⟨h1, h2⟩ := dstOf_some hd
  simp only [Ao.wp] at hw
  split at hw
  · rename_i b off he
    split at hw
    · rename_i v hv
      obtain ⟨_, hw⟩ := hw
      have hr := od_plain h hn hx (by rw [he]; simp)
      rw [he] at hr
      generalize hu : a.eval x = u at hr
      cases hr with
      | ptr _ _ hb =>
        obtain ⟨u, el, vs, b1, b2, own', hI⟩ := h.takeCell b off d (h.gn ▸ hb) hv
        refine .inl ⟨u, w, ?_, Lift.mk h1 hI (Ext.refl g w) (Fr.refl F g w) hw hn⟩
        have h3 := (run_isAgg ht w).1
        have hc : w.cell? ⟨g.bl b, off, none⟩ = some u := by simp [World.cell?, b1, b2]
        simp [execOp, ho, hu, Instr.loadAt, Instr.sureAddr, loadVar, h3, run_load, hc]
    · exact hw.elim
  · exact hw.elim

theorem one_cell {x : Pv} {v : Value} (h : R g w x v) (h1 : x.one = true) : v.oneCell' = true := by
  cases h <;> simp [Pv.one] at h1 <;> rfl

theorem S.one_cell {x : Pv} {v : Value} {o : Option Nat} (h : S g w x v o) (h1 : x.one = true) : v.oneCell' = true := by
  cases h with
  | sh h => exact Gx.one_cell h h1
  | own h => obtain ⟨_, c, k, cs, el, rfl, _⟩ := h; rfl

/-- The cells of a slot's value, each with what it owns. -/
theorem S.cells {x : Pv} {v : Value} {o : Option Nat} (h : S g w x v o) : x.cells.length = v.cells.size ∧ ∀ (j : Nat) y, x.cells[j]? = some y → ∃ u, v.cells[j]? = some u ∧ S g w y u (if j = 0 then o else none) := by
  cases h with
  | sh h =>
    obtain ⟨h1, h2⟩ := h.cells
    refine ⟨h1, fun j y hj => ?_⟩
    obtain ⟨u, hu, hr⟩ := h2 j y hj
    exact ⟨u, hu, by simpa using S.sh hr⟩
  | own h =>
    obtain ⟨hne, c, k, cs, el, rfl, hrest⟩ := h
    refine ⟨rfl, fun j y hj => ?_⟩
    cases j with
    | zero =>
      simp only [Pv.cells, List.getElem?_cons_zero, Option.some.injEq] at hj
      subst hj
      exact ⟨_, rfl, by simp only [if_true]; exact .own ⟨hne, c, k, cs, el, rfl, hrest⟩⟩
    | succ j => simp [Pv.cells] at hj

theorem od_slot {nt : Nat} {x : Operand} {s : Nat} (h : odOf nt x = some (.t s)) : x = .tmp s ∧ s < nt := by
  cases x with
  | tmp t =>
    simp only [odOf] at h
    by_cases hlt : t < nt
    · rw [if_pos hlt] at h
      cases h
      exact ⟨rfl, hlt⟩
    · rw [if_neg hlt] at h; cases h
  | const c =>
    simp only [odOf, Option.map_eq_some_iff] at h
    obtain ⟨z, _, he⟩ := h
    cases he
  | global _ => simp [odOf] at h
  | func f => simp [odOf] at h

theorem od_const {nt : Nat} {x : Operand} {c : Pv} (h : odOf nt x = some (.c c)) (g : Gh) (w : World) : ∀ a : Act, R g w c (a.eval x) := by
  intro a
  cases x with
  | tmp t => simp only [odOf] at h; split at h <;> cases h
  | const v =>
    simp only [odOf, Option.map_eq_some_iff] at h
    obtain ⟨z, hz, he⟩ := h
    cases he
    exact pvOf_R g w v c hz
  | global _ => simp [odOf] at h
  | func f =>
    simp only [odOf] at h
    split at h
    · rename_i hlt
      cases h
      exact .clo f [] [] _ _ rfl rfl (fun i x v hx _ => by simp at hx) (fun i x v hx _ => by simp at hx) hlt
    · cases h

/-- The slot that an operand is. -/
def slOf : Od → Option Nat
  | .t s => some s
  | .c _ => none

theorem run_st (o : Oper) (t : TypeId) (x v : Operand) (ho : o.op = .store t x v) (hnd : o.dst = none) {n : Nat} {x' v' : Od} (hx : odOf nt x = some x') (hv : odOf nt v = some v') (ht : sizeT P t = some n) (hn0 : 0 < n) : RunSnd P nt o (.st n x' v') := by
  intro C K ρ σ a hn g w own F h hw
  simp only [Ao.wp] at hw
  split at hw
  · rename_i b off he
    obtain ⟨hro, hlen, hone, hle, hw⟩ := hw
    have hr := od_plain h hn hx (by rw [he]; simp)
    rw [he] at hr
    generalize hu : a.eval x = u at hr
    cases hr with
    | ptr _ _ hbn =>
      have hb : b < σ.n := h.gn ▸ hbn
      obtain ⟨vs, el, b1, b2, b3, b4⟩ := h.box b hb
      -- the value: what it owns, and where it comes from
      obtain ⟨ov, hS, hov⟩ : ∃ ov, S g w (v'.ev ρ) (a.eval v) ov ∧ (ov ≠ none → ∃ s, slOf v' = some s ∧ ov = own (.s s)) := by
        cases v' with
        | t s =>
          obtain ⟨rfl, hs⟩ := od_slot hv
          exact ⟨own (.s s), h.slot s (by omega), fun _ => ⟨s, rfl, rfl⟩⟩
        | c c => exact ⟨none, .sh (od_const hv g w a), fun hh => absurd rfl hh⟩
      obtain ⟨c1, c2⟩ := hS.cells
      have hcells : (a.eval v).cells.size = n := by omega
      -- the cells that are written
      have hst : (Instr.storeAt t (.pointer (some ⟨g.bl b, off, none⟩)) (a.eval v)).run P w =
          .ok () (w.setRow (g.bl b) (vs.toList.take off ++ (a.eval v).cells.toList ++ vs.toList.drop (off + n)).toArray) := by
        have h1 : ∀ u ∈ (a.eval v).cells.toList, u.oneCell' = true := by
          intro u hu
          obtain ⟨j, hj⟩ := List.getElem?_of_mem hu
          have hjl : j < (v'.ev ρ).cells.length := by have := (List.getElem?_eq_some_iff.1 hj).1; simp at this; omega
          obtain ⟨u', hu', hSu⟩ := c2 j _ (List.getElem?_eq_getElem hjl)
          have : u' = u := by
            rw [Array.getElem?_toList] at hj
            rw [hj] at hu'
            exact (Option.some.inj hu').symm
          subst this
          exact hSu.one_cell ((List.all_eq_true.1 hone) _ (List.getElem_mem hjl))
        have hrun := run_storeCells_at P (g.bl b) off el (a.eval v).cells.toList 0 vs w b1 (by simp; omega) h1
        have hsz := run_sizeT (P := P) ht w
        simp only [Nat.add_zero, Array.length_toList, hcells] at hrun
        simp [Instr.storeAt, Instr.sureAddr, storeVar, hsz, hcells, hrun]
      -- the boxes behind it
      have hcs : ∀ (own' : Pl → Option Nat), (∀ j, own' (.c b j) = if j < off then own (.c b j) else if j = off then ov else if j < off + n then none else own (.c b j)) →
          ∀ (j : Nat) y, ((σ.m b).take off ++ (v'.ev ρ).cells ++ (σ.m b).drop (off + n))[j]? = some y →
            ∃ u, ((vs.toList.take off ++ (a.eval v).cells.toList ++ vs.toList.drop (off + n)).toArray)[j]? = some u ∧ S g w y u (own' (.c b j)) := by
        intro own' hown' j y hj
        rw [hown' j]
        simp only [List.getElem?_toArray]
        rw [List.append_assoc] at hj ⊢
        by_cases h1 : j < off
        · rw [if_pos h1]
          rw [List.getElem?_append_left (by simp; omega), List.getElem?_take_of_lt h1] at hj
          rw [List.getElem?_append_left (by simp; omega), List.getElem?_take_of_lt h1]
          obtain ⟨u, hu, hSu⟩ := b4 j y hj
          exact ⟨u, by simpa using hu, hSu⟩
        · rw [if_neg h1]
          have e1 : ((σ.m b).take off).length = off := by simp; omega
          have e2 : (vs.toList.take off).length = off := by simp; omega
          rw [List.getElem?_append_right (by omega), e1] at hj
          rw [List.getElem?_append_right (by omega), e2]
          by_cases h2 : j - off < n
          · rw [List.getElem?_append_left (by omega)] at hj
            rw [List.getElem?_append_left (by simp; omega)]
            obtain ⟨u, hu, hSu⟩ := c2 (j - off) y hj
            refine ⟨u, by simpa using hu, ?_⟩
            by_cases h3 : j = off
            · rw [if_pos h3]
              rw [if_pos (by omega)] at hSu
              exact hSu
            · rw [if_neg h3, if_pos (by omega)]
              rw [if_neg (by omega)] at hSu
              exact hSu
          · rw [if_neg (by omega : ¬ j = off), if_neg (by omega)]
            rw [List.getElem?_append_right (by omega), List.getElem?_drop] at hj
            rw [List.getElem?_append_right (by simp; omega), List.getElem?_drop]
            simp only [Array.length_toList]
            rw [show off + n + (j - off - (v'.ev ρ).cells.length) = j by omega] at hj
            rw [show off + n + (j - off - (a.eval v).cells.size) = j by omega]
            obtain ⟨u, hu, hSu⟩ := b4 j y hj
            exact ⟨u, by simpa using hu, hSu⟩
      let own' : Pl → Option Nat := fun p => match p with
        | .c b' j => if b' = b then (if j < off then own (.c b j) else if j = off then ov else if j < off + n then none else own (.c b j)) else own (.c b' j)
        | .s s => if slOf v' = some s then none else own (.s s)
        | .b b' => own (.b b')
      have key : ∀ p y, own' p = some y → (p = .c b off ∧ ov = some y) ∨ (own p = some y ∧ (∀ s, slOf v' = some s → p ≠ .s s)) := by
        intro p y hp
        cases p with
        | c b' j =>
          simp only [own'] at hp
          by_cases hbb : b' = b
          · subst hbb
            rw [if_pos rfl] at hp
            split at hp
            · exact .inr ⟨hp, by simp⟩
            · split at hp
              · rename_i hj; subst hj; exact .inl ⟨rfl, hp⟩
              · split at hp
                · cases hp
                · exact .inr ⟨hp, by simp⟩
          · rw [if_neg hbb] at hp; exact .inr ⟨hp, by simp⟩
        | s s =>
          simp only [own'] at hp
          split at hp
          · cases hp
          · rename_i hne
            exact .inr ⟨hp, fun s' hs' he => by cases he; exact hne hs'⟩
        | b b' => exact .inr ⟨hp, by simp⟩
      have hmoved : Moved own own' := by
        refine ⟨fun p q y hp hq => ?_, fun p y hp => ?_⟩
        · rcases key p y hp with ⟨hp1, hp2⟩ | ⟨hp1, hp2⟩ <;> rcases key q y hq with ⟨hq1, hq2⟩ | ⟨hq1, hq2⟩
          · rw [hp1, hq1]
          · obtain ⟨s, hs, ho⟩ := hov (by rw [hp2]; simp)
            rw [ho] at hp2
            exact absurd (h.inj _ _ y hp2 hq1).symm (hq2 s hs)
          · obtain ⟨s, hs, ho⟩ := hov (by rw [hq2]; simp)
            rw [ho] at hq2
            exact absurd (h.inj _ _ y hq2 hp1).symm (hp2 s hs)
          · exact h.inj _ _ y hp1 hq1
        · rcases key p y hp with ⟨hp1, hp2⟩ | ⟨hp1, hp2⟩
          · obtain ⟨s, hs, ho⟩ := hov (by rw [hp2]; simp)
            exact ⟨_, ho ▸ hp2⟩
          · exact ⟨p, hp1⟩
      have hslots : ∀ (ρ' : Env), (∀ t, ρ' t = if slOf v' = some t then (ρ t).shr else ρ t) → ∀ t, t < a.tmps.size → S g w (ρ' t) (a.tmps.getD t undef) (own' (.s t)) := by
        intro ρ' hρ' t ht
        rw [hρ' t]
        simp only [own']
        by_cases hs : slOf v' = some t
        · rw [if_pos hs, if_pos hs]
          exact .sh (h.slot t ht).shr
        · rw [if_neg hs, if_neg hs]
          exact h.slot t ht
      have fin : ∀ (ρ' : Env), (∀ t, ρ' t = if slOf v' = some t then (ρ t).shr else ρ t) → K ρ' (σ.set b ((σ.m b).take off ++ (v'.ev ρ).cells ++ (σ.m b).drop (off + n))) →
          (∃ v₁ w', (execOp a.eval o).run P w = .ok (.value v₁) w' ∧ Lift nt F g w a.defers K (a.put o.dst v₁) w') ∨ (∃ w', (execOp a.eval o).run P w = .ok .skip w' ∧ Lift nt F g w a.defers K (a.put o.dst undef) w') := by
        intro ρ' hρ' hK
        obtain ⟨hI, hE, hF⟩ := h.setBox b hb hro ((σ.m b).take off ++ (v'.ev ρ).cells ++ (σ.m b).drop (off + n)) (vs.toList.take off ++ (a.eval v).cells.toList ++ vs.toList.drop (off + n)).toArray
          (by simp; omega) (hcs own' fun j => by simp only [own', if_true]) (hslots ρ' hρ') (fun b' j hb' => by simp only [own', hb', if_false]) (fun b' => rfl) hmoved
        refine .inr ⟨_, ?_, ρ', _, g, own', ?_, hE, hF, hK, ?_, ?_⟩
        · simp only [execOp, ho, hu, Sem.run_bind, hst, Result.andThen_ok]
          rfl
        · rw [hnd]; exact hI
        · rw [hnd]; exact hn
        · rw [hnd]; rfl
      cases v' with
      | t s =>
        refine fin _ (fun t => ?_) hw
        by_cases hts : t = s
        · subst hts; simp [put_same, slOf]
        · rw [put_ne _ _ hts, if_neg (by simp only [slOf, Option.some.injEq]; exact fun e => hts e.symm)]
      | c c => exact fin ρ (fun t => by simp [slOf]) hw
  · exact hw.elim

end Gx

/- Part Gx10. -/
/- Literals of slices, append, make, bytes to a text. -/
namespace Gx
open Go hiding sizeOf

variable {P : Program} {g : Gh} {w : World} {σ : St} {ρ : Env} {a : Act} {own : Pl → Option Nat} {F : Nat → Prop} {nt : Nat}

theorem row_od {nt : Nat} : ∀ {k : Nat} {ps : List (Nat × Operand)} {ys : List Od}, rowOf nt k ps = some ys → ps.length = ys.length ∧ ∀ (j : Nat) p y, ps[j]? = some p → ys[j]? = some y → p.1 = k + j ∧ odOf nt p.2 = some y
  | k, [], ys, h => by simp only [rowOf, Option.some.injEq] at h; subst h; exact ⟨rfl, fun j p y hp => by simp at hp⟩
  | k, (i, x) :: ps, ys, h => by
    simp only [rowOf] at h
    split at h
    · rename_i hi
      subst hi
      split at h
      · rename_i y zs h1 h2
        cases h
        obtain ⟨l, hr⟩ := row_od h2
        refine ⟨by simp [l], fun j p q hp hq => ?_⟩
        cases j with
        | zero => simp only [List.getElem?_cons_zero, Option.some.injEq] at hp hq; subst hp; subst hq; exact ⟨rfl, h1⟩
        | succ j =>
          obtain ⟨e1, e2⟩ := hr j p q (by simpa using hp) (by simpa using hq)
          exact ⟨by omega, e2⟩
      · cases h
    · cases h

theorem fill_row (sz : Nat) : ∀ (l : List (Nat × Value)) (k : Nat) (init : Array Value), init.size = (k + l.length) * sz → (∀ (j : Nat) p, l[j]? = some p → p.1 = k + j ∧ p.2.cells.size = sz) →
    Instr.fill (fun i => some (i * sz, sz)) init l = some (init.toList.take (k * sz) ++ l.flatMap fun p => p.2.cells.toList).toArray
  | [], k, init, hs, _ => by
    simp only [Instr.fill, List.flatMap_nil, List.append_nil]
    rw [List.take_of_length_le (by simp at hs ⊢; omega)]
  | (i, v) :: l, k, init, hs, hp => by
    obtain ⟨h1, h2⟩ := hp 0 _ rfl
    simp only [Nat.add_zero] at h1 h2
    subst h1
    simp only [List.length_cons] at hs
    have hle : i * sz + sz ≤ init.size := by
      rw [hs, show i + (l.length + 1) = (i + 1) + l.length by omega, Nat.add_mul, Nat.succ_mul]; omega
    simp only [Instr.fill]
    rw [if_neg (by simp [h2]; omega)]
    have hf := fold_set (i * sz) v.cells.toList 0 init (by simp [h2]; omega)
    simp only [Nat.add_zero, Array.length_toList, h2] at hf
    have he : (v.cells.zipIdx.foldl (fun cs (x : Value × Nat) => match x with | (c, j) => cs.setIfInBounds (i * sz + j) c) init) = (init.toList.take (i * sz) ++ v.cells.toList ++ init.toList.drop (i * sz + sz)).toArray := by
      rw [← hf, ← Array.foldl_toList, Array.toList_zipIdx]
    rw [he]
    have ih := fill_row sz l (i + 1) (init.toList.take (i * sz) ++ v.cells.toList ++ init.toList.drop (i * sz + sz)).toArray (by
      simp only [List.size_toArray, List.length_append, List.length_take, List.length_drop, Array.length_toList, h2]
      rw [show (i + 1 + l.length) * sz = init.size by rw [hs]; congr 1; omega]
      omega) (fun j p hj => by
      obtain ⟨e1, e2⟩ := hp (j + 1) p (by simpa using hj)
      exact ⟨by omega, e2⟩)
    rw [ih]
    congr 2
    rw [List.flatMap_cons, ← List.append_assoc]
    congr 1
    rw [List.append_assoc, Nat.succ_mul]
    have e1 : (init.toList.take (i * sz)).length = i * sz := by simp; omega
    have e2 : v.cells.toList.length = sz := by simpa using h2
    rw [← List.append_assoc]
    rw [List.take_left' (by simp [h2]; omega)]

/-- Rows of values, cell by cell. -/
theorem rows_RL {sz : Nat} : ∀ {xs : List Pv} {vs : List Value}, xs.length = vs.length → (∀ (j : Nat) x v, xs[j]? = some x → vs[j]? = some v → R g w x v) → (∀ x ∈ xs, x.cells.length = sz) →
    (∀ v ∈ vs, v.cells.size = sz) ∧ RL g w (xs.flatMap Pv.cells) (vs.flatMap fun v => v.cells.toList).toArray
  | [], [], _, _, _ => ⟨by simp, rfl, fun i x v h => by simp at h⟩
  | [], _ :: _, h, _, _ => by simp at h
  | _ :: _, [], h, _, _ => by simp at h
  | x :: xs, v :: vs, hl, hr, hx => by
    obtain ⟨c1, c2⟩ := (hr 0 x v rfl rfl).cells
    have hxs := hx x (by simp)
    obtain ⟨i1, i2⟩ := rows_RL (xs := xs) (vs := vs) (by simpa using hl) (fun j x v h1 h2 => hr (j + 1) x v (by simpa using h1) (by simpa using h2)) (fun y hy => hx y (by simp [hy]))
    have hvs : v.cells.size = sz := by omega
    refine ⟨?_, ?_, ?_⟩
    · intro u hu
      rcases List.mem_cons.1 hu with rfl | hu
      · exact hvs
      · exact i1 u hu
    · have := i2.1
      simp only [List.flatMap_cons, List.length_append, List.size_toArray, Array.length_toList] at this ⊢
      omega
    · intro i y u hy hu
      simp only [List.flatMap_cons, List.getElem?_toArray] at hy hu
      by_cases hi : i < sz
      · rw [List.getElem?_append_left (by omega)] at hy
        rw [List.getElem?_append_left (by simp; omega)] at hu
        obtain ⟨u', hu', hR⟩ := c2 i y hy
        have : v.cells[i]? = some u := by simpa using hu
        rw [this] at hu'
        cases hu'
        exact hR
      · rw [List.getElem?_append_right (by omega)] at hy
        rw [List.getElem?_append_right (by simp; omega)] at hu
        have e1 : i - x.cells.length = i - sz := by omega
        have e2 : i - v.cells.toList.length = i - sz := by simp; omega
        rw [e1] at hy
        rw [e2] at hu
        exact i2.2 _ y u hy (by simpa using hu)

/-- A new block asq a row of the call's own. -/
theorem Inv.newRow (h : Inv g w σ ρ a.tmps own F) (d : Nat) {xs : List Pv} {k c : Nat} {cs : Array Value} (el : TypeId) (hok : ∀ x ∈ xs, elOk el x) (hne : xs ≠ []) (hk : 0 < k) (hc : c * k ≤ cs.size) (hxc : xs.length ≤ c) (hx2 : xs.length ≤ 2 ^ 48)
    (hx : ∀ x ∈ xs, x.cells.length = k ∧ x.cells.all Pv.one = true) (hr : ∀ (j : Nat) x, (xs.flatMap Pv.cells)[j]? = some x → ∃ v, cs[j]? = some v ∧ R g w x v) :
    ∃ g' own', Inv g' (w.alloc (.cells cs el)) σ (Gx.put ρ d (.sl true xs)) (a.tmps.setIfInBounds d (.slice (some ⟨w.heap.size, 0, none⟩) xs.length c)) own' F ∧ Ext g w g' (w.alloc (.cells cs el)) ∧ Fr F g w g' (w.alloc (.cells cs el)) := by
  obtain ⟨h1, e1, f1⟩ := h.alloc (.cells cs el) (some (xs.length * k))
  have hrow : OwnRow (g.zset w.heap.size (some (xs.length * k))) (w.alloc (.cells cs el)) xs (.slice (some ⟨w.heap.size, 0, none⟩) xs.length c) w.heap.size := by
    refine ⟨hne, c, k, cs, el, rfl, heap_alloc_new w _, by simp [Gh.zset], ⟨hk, hok⟩, hc, hxc, hx2, hx, fun j x hj => ?_⟩
    obtain ⟨v, hv, hR⟩ := hr j x hj
    exact ⟨v, hv, hR.mono e1⟩
  refine ⟨_, _, h1.putOwn d hrow (fun p hp => ?_) (fun hF => ?_), e1, f1⟩
  · have := h.lt p _ hp; omega
  · have := h.flt _ hF; omega

theorem run_bs (o : Oper) (t : TypeId) (n : Nat) (ps : Array (Nat × Operand)) (ho : o.op = .buildSlice t n ps) {d : Nat} {e : TypeId} {sz bytes : Nat} {ys : List Od} (hd : dstOf nt o.dst = some d) (ht : rowT P t = some (e, sz, bytes))
    (hpn : ps.size = n) (hsm : n * sz ≤ 2 ^ 24) (hy : rowOf nt 0 ps.toList = some ys) : RunSnd P nt o (.bs d e sz ys) := by
  intro C K ρ σ a hn g w own F h hw
  obtain ⟨h1, h2⟩ := dstOf_some hd
  obtain ⟨hu, ⟨ti, hti, hts, _, zv, hzv, _⟩, h0, _⟩ := rowT_some ht
  have hz := run_sizeT (P := P) (t := e) (n := sz) (by simp [sizeT, hti, hts]) w
  obtain ⟨hl, hp⟩ := row_od hy
  obtain ⟨hel, hw⟩ := hw
  -- the elements
  have hels : ∀ (j : Nat) x v, (ys.map fun p => (p.ev ρ).frz)[j]? = some x → (ps.toList.map fun p => a.eval p.2)[j]? = some v → R g w x v := by
    intro j x v hx hv
    rw [List.getElem?_map, Option.map_eq_some_iff] at hx hv
    obtain ⟨y, hyj, rfl⟩ := hx
    obtain ⟨p, hpj, rfl⟩ := hv
    exact od_frz h hn (hp j p y hpj hyj).2
  have hcl : ∀ x ∈ ys.map fun p => (p.ev ρ).frz, x.cells.length = sz ∧ x.cells.all Pv.one = true := by
    intro x hx
    obtain ⟨p, hpm, rfl⟩ := List.mem_map.1 hx
    obtain ⟨⟨e1, _⟩, e2⟩ := hel p hpm
    cases hq : p.ev ρ <;> rw [hq] at e1 e2 <;> simp only [Pv.frz, Pv.cells] at e1 e2 ⊢ <;> first
      | exact ⟨e1, e2⟩
      | (refine ⟨by simpa using e1, ?_⟩
         rw [List.all_map]
         rw [List.all_eq_true] at e2 ⊢
         intro y hy
         have := e2 y hy
         cases y <;> simp [Pv.one, Pv.shr] at this ⊢)
  have hoks : ∀ x ∈ ys.map fun p => (p.ev ρ).frz, elOk e x := by
    intro x hx
    obtain ⟨p, hpm, rfl⟩ := List.mem_map.1 hx
    have := (hel p hpm).1.2
    cases hq : p.ev ρ <;> rw [hq] at this <;> exact this
  obtain ⟨r1, r2⟩ := rows_RL (g := g) (w := w) (sz := sz) (by simp [hl]) hels (fun x hx => (hcl x hx).1)
  have hrun : ∃ cells : Array Value, (Instr.buildSlice t n (ps.map fun p => (p.1, a.eval p.2))).run P w = .ok (.slice (some ⟨w.heap.size, 0, none⟩) n n) (w.alloc (.cells cells e)) ∧
      cells = ((ps.toList.map fun p => a.eval p.2).flatMap fun v => v.cells.toList).toArray := by
    refine ⟨_, ?_, rfl⟩
    have hfill : ∀ init : Array Value, init.size = n * sz → Instr.fill (fun i => some (i * sz, sz)) init (ps.map fun p => (p.1, a.eval p.2)).toList =
        some ((ps.toList.map fun p => a.eval p.2).flatMap fun v => v.cells.toList).toArray := by
      intro init hi
      have := fill_row sz (ps.map fun p => (p.1, a.eval p.2)).toList 0 init (by simp [hi, hpn]) (fun j p hj => by
        simp only [Array.toList_map, List.getElem?_map, Option.map_eq_some_iff] at hj
        obtain ⟨q, hq, rfl⟩ := hj
        have hjl : j < ys.length := by have := (List.getElem?_eq_some_iff.1 hq).1; omega
        refine ⟨by have := (hp j q _ hq (List.getElem?_eq_getElem hjl)).1; omega, ?_⟩
        exact r1 _ (List.mem_map.2 ⟨q, List.mem_of_getElem? hq, rfl⟩))
      rw [this]
      simp [List.flatMap_map]
    simp only [Instr.buildSlice, Sem.run_bind, run_underlying hu, Result.andThen_ok, hz]
    rw [if_neg (by omega)]
    by_cases hn0 : n * sz = 0
    · rw [if_pos hn0]
      simp only [Sem.run_bind, Sem.run_pure, Result.andThen_ok]
      rw [hfill _ (by simp)]
      simp [newRow]
    · have hzr : (zeroValue e).run P w = .ok zv w := by simp [zeroValue, typeInfo, hti, hzv]
      rw [if_neg hn0]
      simp only [Sem.run_bind, Sem.run_pure, Result.andThen_ok, hzr]
      rw [hfill _ (by simp)]
      simp [newRow]
  obtain ⟨cells, hrun, rfl⟩ := hrun
  cases ys with
  | nil =>
    have hn0 : n = 0 := by rw [← hpn, ← Array.length_toList, hl]; rfl
    subst hn0
    obtain ⟨hI, hE, hF⟩ := h.alloc (.cells (((ps.toList.map fun p => a.eval p.2).flatMap fun v => v.cells.toList).toArray) e) none
    refine .inl ⟨_, _, by simp only [execOp, ho, Sem.run_bind, hrun, Result.andThen_ok]; rfl, Lift.mk h1 (hI.put d ?_) hE hF hw hn⟩
    exact R.sl [] ⟨w.heap.size, 0, none⟩ 0 1 (fun _ => undef) rfl (by simp) (by simp) (by omega) (by simp) (fun j hj => by simp at hj) fun j x hj => by simp at hj
  | cons y ys =>
    have hn1 : ((y :: ys).map fun p => (p.ev ρ).frz).length = n := by rw [List.length_map, ← hl, Array.length_toList, hpn]
    have hnle : n ≤ n * sz := Nat.le_mul_of_pos_right n h0
    obtain ⟨g', own', hI, hE, hF⟩ := h.newRow d (xs := (y :: ys).map fun p => (p.ev ρ).frz) (k := sz) (c := n) (cs := ((ps.toList.map fun p => a.eval p.2).flatMap fun v => v.cells.toList).toArray) e hoks (by simp) h0 (by
      rw [← r2.1, flat_len fun x hx => (hcl x hx).1, hn1]
      exact Nat.le_refl _) (by omega) (by omega) hcl (fun j x hj => by
      have hlt : j < ((ps.toList.map fun p => a.eval p.2).flatMap fun v => v.cells.toList).toArray.size := by
        have := (List.getElem?_eq_some_iff.1 hj).1
        have := r2.1
        omega
      exact ⟨_, by rw [Array.getElem?_eq_getElem hlt], r2.2 j x _ hj (by rw [Array.getElem?_eq_getElem hlt])⟩)
    rw [hn1] at hI
    exact .inl ⟨_, _, by simp only [execOp, ho, Sem.run_bind, hrun, Result.andThen_ok]; rfl, Lift.mk h1 hI hE hF hw hn⟩

end Gx

/- Part Gx11. -/
/- append, make, bytes to a text. -/
namespace Gx
open Go hiding sizeOf

variable {P : Program} {g : Gh} {w : World} {σ : St} {ρ : Env} {a : Act} {own : Pl → Option Nat} {F : Nat → Prop} {nt : Nat}

/-- What is appended. -/
structure Src (P : Program) (g : Gh) (w : World) (sz : Nat) (ys : List Pv) (v : Value) (news : List Value) : Prop where
  len : (∃ A c, v = .slice A ys.length c) ∨ ∃ s, v = .string s ∧ s.size = ys.length
  rl : RL g w (ys.flatMap Pv.cells) news.toArray
  one : ∀ u ∈ news, u.oneCell' = true
  size : news.length = ys.length * sz
  el : ∀ y ∈ ys, y.cells.length = sz ∧ y.cells.all Pv.one = true
  run : ∀ w1 : World, w1.heap = w.heap → (Builtin.firstCells sz ys.length v).run P w1 = .ok news.toArray w1

theorem src_sl {ys : List Pv} {v : Value} (h : R g w (.sl false ys) v) {sz : Nat} (hy : ∀ y ∈ ys, y.cells.length = sz) : ∃ news, Src P g w sz ys v news := by
  cases h with
  | slnil =>
    refine ⟨[], .inl ⟨_, _, rfl⟩, ⟨rfl, fun i x v h => by simp at h⟩, by simp, by simp, by simp, fun w1 _ => by simp [Builtin.firstCells]⟩
  | sl _ ad c k vs hsp hc hc2 hk hx hcell h =>
    have hnews : ys.length * k = ys.length * sz := by
      cases ys with
      | nil => simp
      | cons y ys => rw [← (hx y (by simp)).1, ← hy y (by simp)]
    refine ⟨(List.range (ys.length * k)).map vs, .inl ⟨_, _, rfl⟩, ⟨?_, ?_⟩, ?_, by simp [hnews], fun y hm => ⟨hy y hm, (hx y hm).2⟩, ?_⟩
    · rw [flat_len fun x hm => (hx x hm).1]; simp
    · intro i x v hx' hv
      simp only [List.getElem?_toArray, List.getElem?_map] at hv
      cases hr : (List.range (ys.length * k))[i]? with
      | none => rw [hr] at hv; cases hv
      | some j =>
        rw [hr] at hv
        simp only [Option.map_some, Option.some.injEq] at hv
        subst hv
        have hij : j = i := by
          have := List.getElem?_eq_some_iff.1 hr
          obtain ⟨_, e⟩ := this
          simpa using e.symm
        subst hij
        exact h j x hx'
    · intro u hu
      obtain ⟨j, hj, rfl⟩ := List.mem_map.1 hu
      have hjl : j < (ys.flatMap Pv.cells).length := by rw [flat_len fun x hm => (hx x hm).1]; simpa using hj
      have hR := h j _ (List.getElem?_eq_getElem hjl)
      refine one_cell hR ?_
      have hmem := List.getElem_mem hjl
      obtain ⟨y, hym, hc⟩ := List.mem_flatMap.1 hmem
      exact (List.all_eq_true.1 (hx y hym).2) _ hc
    · intro w1 hw1
      have hadd : ∀ j, ad.add j = ⟨ad.block, ad.off + j, none⟩ := by
        intro j
        unfold Addr.add
        split
        · rename_i h0; subst h0; obtain ⟨b, o, sp⟩ := ad; simp only at hsp; subst hsp; rfl
        · rfl
      have hl := run_loadCells (P := P) w1 ad (ys.length * k) vs (fun j hj => by
        rw [hadd]
        have := (hcell j hj).1
        simpa [World.cell?, hw1] using this)
      simp only [Builtin.firstCells]
      rw [← hnews]
      exact hl

theorem ofBytes_RL (g : Gh) (w : World) (s : ByteArray) : RL g w (ofBytes s.data.toList) (s.data.map fun b => .int .u8 b.toNat) := by
  refine ⟨by simp [ofBytes], fun i x v hx hv => ?_⟩
  simp only [ofBytes, List.getElem?_map, Option.map_eq_some_iff] at hx
  simp only [Array.getElem?_map, Option.map_eq_some_iff] at hv
  obtain ⟨b, hb, rfl⟩ := hx
  obtain ⟨c, hc, rfl⟩ := hv
  rw [Array.getElem?_toList] at hb
  rw [hb] at hc
  cases hc
  exact .int _ _

theorem flat_ofBytes (l : List UInt8) : (ofBytes l).flatMap Pv.cells = ofBytes l := by
  induction l with
  | nil => rfl
  | cons b l ih => simp only [ofBytes, List.map_cons, List.flatMap_cons] at ih ⊢; rw [ih]; rfl

theorem src_str {l : List UInt8} {v : Value} (h : R g w (.str l) v) : ∃ news, Src P g w 1 (ofBytes l) v news := by
  obtain ⟨s, rfl, rfl, _⟩ := h.str_inv
  have hsz : s.size = (ofBytes s.data.toList).length := by rw [ofBytes, List.length_map]; exact size_data s
  have harr : (s.data.map fun b => Value.int .u8 b.toNat).toList.toArray = s.data.map fun b => Value.int .u8 b.toNat := by simp only [Array.toArray_toList]
  refine ⟨(s.data.map fun b => Value.int .u8 b.toNat).toList, .inr ⟨s, rfl, hsz⟩, ?_, ?_, by simp [ofBytes], ?_, ?_⟩
  · rw [flat_ofBytes, harr]
    exact ofBytes_RL g w s
  · intro u hu
    simp only [Array.toList_map, List.mem_map] at hu
    obtain ⟨b, _, rfl⟩ := hu
    rfl
  · intro y hy
    simp only [ofBytes, List.mem_map] at hy
    obtain ⟨b, _, rfl⟩ := hy
    exact ⟨rfl, rfl⟩
  · intro w1 _
    rw [← hsz]
    have : s.extract 0 s.size = s := by simp
    rw [harr]
    simp only [Builtin.firstCells, this]
    rfl

theorem flat_app (xs ys : List Pv) : (xs ++ ys).flatMap Pv.cells = xs.flatMap Pv.cells ++ ys.flatMap Pv.cells := by simp

/-- In place: a row that has room. -/
theorem Inv.growRow (h : Inv g w σ ρ a.tmps own F) (d : Nat) {xs ys : List Pv} {b c k sz : Nat} {cs : Array Value} {el : TypeId} {news : List Value} {v : Value} (hok : ∀ x ∈ xs ++ ys, elOk el x) (hne : xs ≠ []) (hb : w.heap[b]? = some (.cells cs el (0, 0))) (hz : g.z b = some (xs.length * k))
    (hk : 0 < k) (hcs : c * k ≤ cs.size) (hroom : xs.length + ys.length ≤ c) (hx2 : xs.length + ys.length ≤ 2 ^ 48) (hx : ∀ x ∈ xs, x.cells.length = k ∧ x.cells.all Pv.one = true) (hxs : ∀ x ∈ xs, x.cells.length = sz)
    (hr : ∀ (j : Nat) x, (xs.flatMap Pv.cells)[j]? = some x → ∃ v, cs[j]? = some v ∧ R g w x v) (hsrc : Src P g w sz ys v news) (hown : ∀ p, own p ≠ some b) (hF : ¬ F b) :
    ∃ g' own', Inv g' (w.setRow b (cs.toList.take (xs.length * sz) ++ news ++ cs.toList.drop (xs.length * sz + news.length)).toArray) σ (Gx.put ρ d (.sl true (xs ++ ys)))
        (a.tmps.setIfInBounds d (.slice (some ⟨b, 0, none⟩) (xs.length + ys.length) c)) own' F ∧
      Ext g w g' (w.setRow b (cs.toList.take (xs.length * sz) ++ news ++ cs.toList.drop (xs.length * sz + news.length)).toArray) ∧
      Fr F g w g' (w.setRow b (cs.toList.take (xs.length * sz) ++ news ++ cs.toList.drop (xs.length * sz + news.length)).toArray) := by
  have hks : k = sz := by
    cases xs with
    | nil => exact absurd rfl hne
    | cons x xs => rw [← (hx x (by simp)).1, hxs x (by simp)]
  subst hks
  have hfit : xs.length * k + news.length ≤ cs.size := by
    rw [hsrc.size, ← Nat.add_mul]
    exact Nat.le_trans (Nat.mul_le_mul_right k hroom) hcs
  generalize hrow : (cs.toList.take (xs.length * k) ++ news ++ cs.toList.drop (xs.length * k + news.length)).toArray = row
  have hrsz : row.size = cs.size := by rw [← hrow]; simp; omega
  have hrget : ∀ j, j < xs.length * k → row[j]? = cs[j]? := by
    intro j hj
    rw [← hrow, List.getElem?_toArray, List.append_assoc, List.getElem?_append_left (by simp; omega), List.getElem?_take_of_lt hj]
    simp
  have e : Ext g w (g.zset b (some ((xs.length + ys.length) * k))) (w.setRow b row) := by
    refine ⟨rfl, rfl, rfl, by simp, fun b' o v hv hs => ?_, Nat.le_refl _, fun _ _ => rfl, fun b' _ hz' => ?_⟩
    · by_cases hbb : b' = b
      · subst hbb
        have ho := hs _ hz
        refine ⟨?_, fun k' hk' => ?_⟩
        · simp only [World.cell?, hb, Option.isSome_none, Bool.false_eq_true, if_false] at hv
          have := setRow_heap w b' cs row el (0, 0) hb
          simp only [World.cell?, this, Option.isSome_none, Bool.false_eq_true, if_false]
          rw [hrget o ho]; exact hv
        · simp only [Gh.zset, if_true, Option.some.injEq] at hk'
          subst hk'
          rw [Nat.add_mul]; omega
      · refine ⟨(cell_setRow_other w b row ⟨b', o, none⟩ hbb).trans hv, fun k' hk' => ?_⟩
        simp only [Gh.zset, hbb, if_false] at hk'
        exact hs k' hk'
    · have hbb : b' ≠ b := fun he => by subst he; rw [hz] at hz'; cases hz'
      exact ⟨by simp only [Gh.zset, hbb, if_false]; exact hz', setRow_other w b b' row hbb⟩
  have hkeep : ∀ x, x ≠ b → (w.setRow b row).heap[x]? = w.heap[x]? ∧ (g.zset b (some ((xs.length + ys.length) * k))).z x = g.z x :=
    fun x hx => ⟨setRow_other w b x row hx, by simp only [Gh.zset, hx, if_false]⟩
  have h1 := h.world e rfl fun p x hp => hkeep x fun he => hown p (he ▸ hp)
  have hown' : OwnRow (g.zset b (some ((xs.length + ys.length) * k))) (w.setRow b row) (xs ++ ys) (.slice (some ⟨b, 0, none⟩) (xs.length + ys.length) c) b := by
    refine ⟨by simp [hne], c, k, row, el, by simp, setRow_heap w b cs row el (0, 0) hb, by simp [Gh.zset], ⟨hk, hok⟩, by omega, by simpa using hroom, by simpa using hx2, ?_, ?_⟩
    · intro x hxm
      rcases List.mem_append.1 hxm with hxm | hxm
      · exact hx x hxm
      · exact hsrc.el x hxm
    · intro j x hj
      rw [flat_app] at hj
      have hfl : (xs.flatMap Pv.cells).length = xs.length * k := flat_len fun x hxm => (hx x hxm).1
      by_cases hjl : j < xs.length * k
      · rw [List.getElem?_append_left (by omega)] at hj
        obtain ⟨v, hv, hR⟩ := hr j x hj
        exact ⟨v, by rw [hrget j hjl]; exact hv, hR.mono e⟩
      · rw [List.getElem?_append_right (by omega), hfl] at hj
        have hjn : j - xs.length * k < news.length := by
          have := (List.getElem?_eq_some_iff.1 hj).1
          rw [flat_len fun y hy => (hsrc.el y hy).1] at this
          rw [hsrc.size]; exact this
        have hg : row[j]? = some news[j - xs.length * k] := by
          rw [← hrow, List.getElem?_toArray, List.append_assoc, List.getElem?_append_right (by simp; omega)]
          have : (cs.toList.take (xs.length * k)).length = xs.length * k := by simp; omega
          rw [this, List.getElem?_append_left hjn, List.getElem?_eq_getElem hjn]
        exact ⟨_, hg, (hsrc.rl.2 _ x _ hj (by rw [List.getElem?_toArray, List.getElem?_eq_getElem hjn])).mono e⟩
  refine ⟨_, _, h1.putOwn d hown' (fun p hp => absurd hp (hown p)) hF, e, fun x hx => hkeep x fun he => by subst he; exact hF hx⟩

end Gx

/- Part Gx12. -/
/- append, make, bytes to a text: the runs, and what they come to. -/
namespace Gx
open Go hiding sizeOf

variable {P : Program} {g : Gh} {w : World} {σ : St} {ρ : Env} {a : Act} {own : Pl → Option Nat} {F : Nat → Prop} {nt : Nat}

/-- The kinds of an append's operands. -/
structure ApT (P : Program) (ts tx e : TypeId) (ti : TypeInfo) (zv : Value) : Prop where
  ht : P.underlying ts = some (.slice e)
  hx : (∃ u, P.underlying tx = some (.slice u)) ∨ P.underlying tx = some .string
  hi : P.info? e = some ti
  hz : ti.zero = some zv
  hs : 0 < ti.size
  hb : 0 < ti.bytes
  hb2 : ti.bytes ≤ 16384
  hzs : zv.cells.size = ti.size

theorem run_ap_room {ts tx e ty : TypeId} {ti : TypeInfo} {zv : Value} (T : ApT P ts tx e ti zv) {ys : List Pv} {v : Value} {news : List Value} (hsrc : Src P g w ti.size ys v news) {b n c : Nat} {cs : Array Value} {el : TypeId}
    (hb : w.heap[b]? = some (.cells cs el (0, 0))) (hroom : n + ys.length ≤ c) (hfit : n * ti.size + news.length ≤ cs.size) :
    (Builtin.append_ #[ts, tx] ty #[.slice (some ⟨b, 0, none⟩) n c, v]).run P w = .ok (.slice (some ⟨b, 0, none⟩) (n + ys.length) c) (w.setRow b (cs.toList.take (n * ti.size) ++ news ++ cs.toList.drop (n * ti.size + news.length)).toArray) := by
  have hrun := hsrc.run w rfl
  have hst := run_storeCells_at P b (n * ti.size) el news 0 cs w hb (by simpa using hfit) hsrc.one
  simp only [Nat.add_zero] at hst
  have hsz := run_sizeT (P := P) (t := e) (n := ti.size) (by simp [sizeT, T.hi]) w
  have hadd : (⟨b, 0, none⟩ : Addr).add (n * ti.size) = ⟨b, n * ti.size, none⟩ := by unfold Addr.add; split <;> simp_all
  have hlen : (Builtin.lenOf v).run P w = .ok ys.length w := by
    rcases hsrc.len with ⟨A, c', rfl⟩ | ⟨s, rfl, hl⟩
    · rfl
    · rw [← hl]; rfl
  rcases T.hx with ⟨u, hu⟩ | hu
  · simp [Builtin.append_, run_underlying T.ht, run_underlying hu, hsz, hlen, hroom, hrun, hadd, hst]
  · simp [Builtin.append_, run_underlying T.ht, run_underlying hu, hsz, hlen, hroom, hrun, hadd, hst]

theorem run_ap_grow {ts tx e ty : TypeId} {ti : TypeInfo} {zv : Value} (T : ApT P ts tx e ti zv) {xs ys : List Pv} {sv v : Value} {olds news : List Value} (hold : Src P g w ti.size xs sv olds) (hsrc : Src P g w ti.size ys v news) {A : Option Addr} {c : Nat}
    (hsv : sv = .slice A xs.length c) (hroom : c < xs.length + ys.length) (hle : xs.length + ys.length ≤ 2 ^ 32) :
    ∃ nc cells, xs.length + ys.length ≤ nc ∧ cells = olds.toArray ++ news.toArray ++ Builtin.zeroCells zv.cells (nc - (xs.length + ys.length)) ∧
      (Builtin.append_ #[ts, tx] ty #[sv, v]).run P w = .ok (.slice (some ⟨w.heap.size, 0, none⟩) (xs.length + ys.length) nc) (w.drew.alloc (.cells cells e)) := by
  have hrun := hsrc.run w.drew rfl
  have hrun0 := hold.run w.drew rfl
  have hsz := run_sizeT (P := P) (t := e) (n := ti.size) (by simp [sizeT, T.hi])
  have hlen : (Builtin.lenOf v).run P w = .ok ys.length w := by
    rcases hsrc.len with ⟨A, c', rfl⟩ | ⟨s, rfl, hl⟩
    · rfl
    · rw [← hl]; rfl
  have hti : ∀ w1 : World, (typeInfo e).run P w1 = .ok ti w1 := fun w1 => by simp [typeInfo, T.hi]
  have hzr : ∀ w1 : World, (zeroValue e).run P w1 = .ok zv w1 := fun w1 => by simp [zeroValue, hti, T.hz]
  have hbig : ¬ Builtin.nextslicecap (xs.length + ys.length) c * ti.bytes > 2 ^ 48 := by
    have h1 := nextslicecap_le hroom
    have h2 := T.hb2
    have h3 : Builtin.nextslicecap (xs.length + ys.length) c * ti.bytes ≤ (2 * (xs.length + ys.length)) * 16384 := Nat.mul_le_mul h1 h2
    omega
  have hnr : ¬ xs.length + ys.length ≤ c := by omega
  have hov : ¬ (((xs.length + ys.length : Nat) : Int) > IntKind.i64.max) := by
    have : IntKind.i64.max = 9223372036854775807 := by decide
    omega
  have hby : ¬ ti.bytes = 0 := by have := T.hb; omega
  refine ⟨(Question.appendCap (xs.length + ys.length) c e).cut (w.tape w.drawn (.appendCap (xs.length + ys.length) c e)), _, by simp [Question.cut], rfl, ?_⟩
  subst hsv
  have hforced : (Question.appendCap (xs.length + ys.length) c e).forced = false := rfl
  have hask : ∀ (n : Nat) (w1 : World), (askRoom n).run P w1 = .ok () w1 := by
    intro n w1
    unfold askRoom
    split <;> rfl
  rcases T.hx with ⟨u, hu⟩ | hu
  · simp only [Builtin.append_]
    simp [run_underlying T.ht, run_underlying hu, hsz, hlen, hnr, hti, hbig, hby, hforced, hask, hrun, hrun0, hzr, newRow]
    rw [← Array.append_assoc]
    simp
  · simp only [Builtin.append_]
    simp [run_underlying T.ht, run_underlying hu, hsz, hlen, hnr, hti, hbig, hby, hforced, hask, hrun, hrun0, hzr, newRow]
    rw [← Array.append_assoc]
    simp

theorem ap_core {ts tx e ty : TypeId} {ti : TypeInfo} {zv : Value} (T : ApT P ts tx e ti zv) (h : Inv g w σ ρ a.tmps own F) (d : Nat) {xs ys : List Pv} {sv v : Value} {ob : Option Nat} (hS : S g w (.sl true xs) sv ob)
    (hob : ∀ b, ob = some b → (∀ p, own p ≠ some b) ∧ ¬ F b) {news : List Value} (hsrc : Src P g w ti.size ys v news) (hxs : ∀ x ∈ xs, x.cells.length = ti.size) (hokall : ∀ x ∈ xs ++ ys, elOk e x) (hle : xs.length + ys.length ≤ 2 ^ 32) :
    ∃ u w' g' own', (Builtin.append_ #[ts, tx] ty #[sv, v]).run P w = .ok u w' ∧ Inv g' w' σ (Gx.put ρ d (.sl true (xs ++ ys))) (a.tmps.setIfInBounds d u) own' F ∧ Ext g w g' w' ∧ Fr F g w g' w' := by
  -- a new block
  have grow : ∀ (A : Option Addr) (c : Nat) (olds : List Value), sv = .slice A xs.length c → c < xs.length + ys.length → Src P g w ti.size xs sv olds →
      ∃ u w' g' own', (Builtin.append_ #[ts, tx] ty #[sv, v]).run P w = .ok u w' ∧ Inv g' w' σ (Gx.put ρ d (.sl true (xs ++ ys))) (a.tmps.setIfInBounds d u) own' F ∧ Ext g w g' w' ∧ Fr F g w g' w' := by
    intro A c olds hsv hroom hold
    obtain ⟨nc, cells, hnc, hcells, hrun⟩ := run_ap_grow (ty := ty) T hold hsrc hsv hroom hle
    have h1 := h.drew
    have e1 : Ext g w g w.drew := Ext.drew
    have hel : ∀ x ∈ xs ++ ys, x.cells.length = ti.size ∧ x.cells.all Pv.one = true := by
      intro x hx
      rcases List.mem_append.1 hx with hx | hx
      · exact hold.el x hx
      · exact hsrc.el x hx
    have hlen : (xs ++ ys).length = xs.length + ys.length := by simp
    obtain ⟨g', own', hI, hE, hF⟩ := h1.newRow d (xs := xs ++ ys) (k := ti.size) (c := nc) (cs := cells) e hokall (by
      intro h0
      rw [h0] at hlen
      simp at hlen
      omega) T.hs (by
      rw [hcells]
      simp only [Array.size_append, List.size_toArray, hold.size, hsrc.size, size_zeroCells, T.hzs]
      rw [← Nat.add_mul, ← Nat.add_mul]
      exact Nat.mul_le_mul_right _ (by omega)) (by omega) (by omega) hel (by
      intro j x hj
      rw [flat_app] at hj
      have ho := hold.rl
      have hn := hsrc.rl
      have hol : (xs.flatMap Pv.cells).length = olds.length := by simpa using ho.1
      by_cases hjl : j < olds.length
      · rw [List.getElem?_append_left (by omega)] at hj
        refine ⟨olds[j], ?_, (ho.2 j x _ hj (by simp [hjl])).mono e1⟩
        rw [hcells, Array.append_assoc, Array.getElem?_append_left (by simpa using hjl)]
        simp [hjl]
      · rw [List.getElem?_append_right (by omega), hol] at hj
        have hnl : (ys.flatMap Pv.cells).length = news.length := by simpa using hn.1
        have hjn : j - olds.length < news.length := by have := (List.getElem?_eq_some_iff.1 hj).1; omega
        refine ⟨news[j - olds.length], ?_, (hn.2 _ x _ hj (by simp [hjn])).mono e1⟩
        rw [hcells, Array.append_assoc, Array.getElem?_append_right (by simpa using hjl), Array.getElem?_append_left (by simpa using hjn)]
        simp [hjn])
    rw [hlen] at hI
    exact ⟨_, _, g', own', hrun, hI, e1.trans hE, (Fr.refl F g w).trans (fun x hx => hF x hx)⟩
  cases hS with
  | sh hr =>
    cases hr with
    | slnil =>
      cases hys : ys with
      | nil =>
        subst hys
        refine ⟨.slice none 0 0, w, g, _, ?_, h.put d (.slnil true), Ext.refl g w, Fr.refl F g w⟩
        have hrun := hsrc.run w rfl
        have hsz := run_sizeT (P := P) (t := e) (n := ti.size) (by simp [sizeT, T.hi]) w
        have hlen : (Builtin.lenOf v).run P w = .ok 0 w := by
          rcases hsrc.len with ⟨A, c', rfl⟩ | ⟨s, rfl, hl⟩
          · rfl
          · have : s.size = 0 := by simpa using hl
            rw [← this]; rfl
        have hn0 : news = [] := List.eq_nil_of_length_eq_zero (by simpa using hsrc.size)
        simp only [List.length_nil, hn0] at hrun
        rcases T.hx with ⟨u, hu⟩ | hu
        · simp [Builtin.append_, run_underlying T.ht, run_underlying hu, hsz, hlen, hrun]
        · simp [Builtin.append_, run_underlying T.ht, run_underlying hu, hsz, hlen, hrun]
      | cons y ys' =>
        rw [← hys]
        obtain ⟨olds, ho⟩ := src_sl (P := P) (g := g) (w := w) (ys := []) (v := .slice none 0 0) (.slnil false) (sz := ti.size) (by simp)
        exact grow none 0 olds rfl (by simp [hys]) ho
  | own hr =>
    rename_i b
    obtain ⟨hown, hF⟩ := hob b rfl
    have hshr := hr.shr
    obtain ⟨hne, c, k, cs, el, rfl, hh, hz, ⟨hk, hko⟩, hcs, hc, hc2, hx, hrr⟩ := hr
    by_cases hroom : xs.length + ys.length ≤ c
    · have hks : k = ti.size := by
        cases xs with
        | nil => exact absurd rfl hne
        | cons x xs => rw [← (hx x (by simp)).1, hxs x (by simp)]
      have hfit : xs.length * ti.size + news.length ≤ cs.size := by
        rw [hsrc.size, ← Nat.add_mul]
        rw [hks] at hcs
        exact Nat.le_trans (Nat.mul_le_mul_right ti.size hroom) hcs
      obtain ⟨g', own', hI, hE, hFr⟩ := h.growRow d (by
        obtain ⟨x0, hx0⟩ := List.exists_mem_of_ne_nil xs hne
        have e0 := hokall x0 (List.mem_append_left _ hx0)
        have e1 := hko x0 hx0
        intro x hxm
        have := hokall x hxm
        unfold elOk at *
        rw [this, ← e0, e1]) hne hh hz hk hcs hroom (by omega) hx hxs hrr hsrc hown hF
      exact ⟨_, _, g', own', run_ap_room T hsrc hh hroom hfit, hI, hE, hFr⟩
    · obtain ⟨olds, ho⟩ := src_sl (P := P) hshr hxs
      exact grow _ c olds rfl (by omega) ho

theorem apT_of {t tx e : TypeId} {sz bytes : Nat} (h : rowT P t = some (e, sz, bytes)) (hx : (∃ u, P.underlying tx = some (.slice u)) ∨ P.underlying tx = some .string) : ∃ ti zv, ti.size = sz ∧ ApT P t tx e ti zv := by
  obtain ⟨hu, ⟨ti, hti, hts, hby, zv, hzv, hzs⟩, h0, hb0, hb2⟩ := rowT_some h
  exact ⟨ti, zv, hts, hu, hx, hti, hzv, by omega, by omega, by omega, hzs⟩

theorem run_ap (o : Oper) (c : Call) (s x : Operand) (ts tx : TypeId) (ho : o.op = .call c) (hb : c.callee = .builtin .append) (ha : c.args = #[s, x]) (hat : c.argTypes = #[ts, tx]) {d : Nat} {e : TypeId} {sz bytes : Nat} {s' x' : Od} (hd : dstOf nt o.dst = some d)
    (ht : rowT P ts = some (e, sz, bytes)) (htx : (∃ u, P.underlying tx = some (.slice u)) ∨ P.underlying tx = some .string) (hs : odOf nt s = some s') (hx : odOf nt x = some x') : RunSnd P nt o (.ap d e sz s' x') := by
  intro C K ρ σ a hn g w own F h hw
  obtain ⟨h1, h2⟩ := dstOf_some hd
  obtain ⟨ti, zv, rfl, T⟩ := apT_of ht htx
  have hrx := od_R h hn hx
  have exec : ∀ u w', (Builtin.append_ #[ts, tx] o.type #[a.eval s, a.eval x]).run P w = .ok u w' → (execOp a.eval o).run P w = .ok (.value u) w' := by
    intro u w' hr
    simp [execOp, ho, resolve, hb, ha, hat, invoke, builtin, hr]
  -- from a slot
  have slot : ∀ (n : Nat) (xs ys : List Pv) (news : List Value), s' = .t n → ρ n = .sl true xs → Src P g w ti.size ys (a.eval x) news → (∀ x ∈ xs, x.cells.length = ti.size) → (∀ x ∈ xs ++ ys, elOk e x) → xs.length + ys.length ≤ 2 ^ 32 →
      K (put (put ρ n (.sl false xs)) d (.sl true (xs ++ ys))) σ → ∃ v w', (execOp a.eval o).run P w = .ok (.value v) w' ∧ Lift nt F g w a.defers K (a.put o.dst v) w' := by
    intro n xs ys news hsn hρ hsrc hxs hoka hle hK
    subst hsn
    obtain ⟨rfl, hnt⟩ := od_slot hs
    have hS := h.slot n (by omega)
    rw [hρ] at hS
    have hg := h.give n
    rw [hρ] at hg
    obtain ⟨u, w', g', own', r1, r2, r3, r4⟩ := ap_core (ty := o.type) T hg d hS (fun b hb => ⟨fun p hp => by
      by_cases hpn : p = .s n
      · simp [hpn] at hp
      · rw [if_neg hpn] at hp; exact hpn (h.inj _ _ b hp hb), h.dis _ b hb⟩) hsrc hxs hoka hle
    exact ⟨u, w', exec u w' r1, Lift.mk h1 r2 r3 r4 hK hn⟩
  have konst : ∀ (ys : List Pv) (news : List Value), s' = .c (.sl true []) → Src P g w ti.size ys (a.eval x) news → (∀ x ∈ ys, elOk e x) → ys.length ≤ 2 ^ 32 →
      K (put ρ d (.sl true ys)) σ → ∃ v w', (execOp a.eval o).run P w = .ok (.value v) w' ∧ Lift nt F g w a.defers K (a.put o.dst v) w' := by
    intro ys news hsc hsrc hoka hle hK
    subst hsc
    have hR := od_const hs g w a
    obtain ⟨u, w', g', own', r1, r2, r3, r4⟩ := ap_core (ty := o.type) T h d (.sh hR) (fun b hb => by cases hb) hsrc (by simp) (by simpa using hoka) (by simpa using hle)
    exact ⟨u, w', exec u w' r1, Lift.mk h1 r2 r3 r4 (by simpa using hK) hn⟩
  refine .inl ?_
  simp only [Ao.wp] at hw
  split at hw
  · rename_i n
    split at hw
    · rename_i ow xs ow2 ys hρ hx'
      obtain ⟨rfl, hle, e1, e2, hK⟩ := hw
      rw [hx'] at hrx
      obtain ⟨news, hsrc⟩ := src_sl (P := P) hrx fun y hy => (e2 y hy).1
      exact slot n xs ys news rfl hρ hsrc (fun y hy => (e1 y hy).1) (fun y hy => (List.mem_append.1 hy).elim (fun h => (e1 y h).2) fun h => (e2 y h).2) hle hK
    · rename_i ow xs l hρ hx'
      obtain ⟨rfl, ⟨hsz, hty⟩, hle, e1, hK⟩ := hw
      rw [hx'] at hrx
      obtain ⟨news, hsrc⟩ := src_str (P := P) hrx
      rw [← hsz] at hsrc
      exact slot n xs (ofBytes l) news rfl hρ hsrc (fun y hy => (e1 y hy).1) (fun y hy => (List.mem_append.1 hy).elim (fun h => (e1 y h).2) fun h => by
        obtain ⟨c, _, rfl⟩ := List.mem_map.1 h
        simp [elOk, Pv.isU8, hty]) (by simpa [ofBytes] using hle) hK
    · exact hw.elim
  · split at hw
    · rename_i ow2 ys hx'
      obtain ⟨hle, e2, hK⟩ := hw
      rw [hx'] at hrx
      obtain ⟨news, hsrc⟩ := src_sl (P := P) hrx fun y hy => (e2 y hy).1
      exact konst ys news rfl hsrc (fun y hy => (e2 y hy).2) hle hK
    · rename_i l hx'
      obtain ⟨⟨hsz, hty⟩, hle, hK⟩ := hw
      rw [hx'] at hrx
      obtain ⟨news, hsrc⟩ := src_str (P := P) hrx
      rw [← hsz] at hsrc
      exact konst (ofBytes l) news rfl hsrc (fun y h => by
        obtain ⟨c, _, rfl⟩ := List.mem_map.1 h
        simp [elOk, Pv.isU8, hty]) (by simpa [ofBytes] using hle) hK
    · exact hw.elim
  · exact hw.elim

theorem bytesOf_some : ∀ {xs : List Pv} {s : List UInt8}, bytesOf xs = some s → ∃ ns : List Int, xs = ns.map (fun n => .int .u8 n) ∧ s = ns.map fun n => UInt8.ofNat n.toNat
  | [], s, h => by simp only [bytesOf, Option.some.injEq] at h; subst h; exact ⟨[], rfl, rfl⟩
  | x :: xs, s, h => by
    unfold bytesOf at h
    split at h
    · rename_i he; cases he
    · rename_i n ys he
      cases he
      rw [Option.map_eq_some_iff] at h
      obtain ⟨t, ht, rfl⟩ := h
      obtain ⟨ns, rfl, rfl⟩ := bytesOf_some ht
      exact ⟨n :: ns, rfl, rfl⟩
    · cases h

theorem flat_ints (ns : List Int) : (ns.map (fun n => Pv.int .u8 n)).flatMap Pv.cells = ns.map fun n => Pv.int .u8 n := by
  induction ns with
  | nil => rfl
  | cons n ns ih => simp only [List.map_cons, List.flatMap_cons, ih]; rfl

theorem run_b2s (o : Oper) (s t : TypeId) (x : Operand) (ho : o.op = .convert s t x) {d : Nat} {x' : Od} {e : TypeId} (hd : dstOf nt o.dst = some d) (hx : odOf nt x = some x') (hs : P.underlying s = some (.slice e)) (he : P.underlying e = some (.int .u8))
    (ht : P.underlying t = some .string) : RunSnd P nt o (.cv d .b2s x') := by
  intro C K ρ σ a hn g w own F h hw
  obtain ⟨h1, h2⟩ := dstOf_some hd
  simp only [Ao.wp] at hw
  split at hw
  · rename_i hk _; cases hk
  · rename_i hk _; cases hk
  · rename_i ow xs _ hx'
    split at hw
    · rename_i l hl
      obtain ⟨ns, rfl, rfl⟩ := bytesOf_some hl
      have hr := od_R h hn hx
      rw [hx'] at hr
      simp only [Pv.shr] at hr
      have hrun : (convert s t (a.eval x)).run P w = .ok (.string (strOfNums ns)) w ∧ ns.length ≤ 2 ^ 48 := by
        generalize a.eval x = v at hr
        generalize hq : ns.map (fun n => Pv.int .u8 n) = q at hr
        cases hr with
        | slnil =>
          have : ns = [] := by simpa using hq
          subst this
          refine ⟨?_, by simp⟩
          have := run_convert_bytes_nil (P := P) w s e hs he 0 0 t ht
          exact this
        | sl _ ad c k vs hsp hc hc2 hk hxk hcell hh =>
          subst hq
          have hlen : (ns.map fun n => Pv.int .u8 n).length = ns.length := by simp
          refine ⟨?_, by omega⟩
          have hk1 : ns ≠ [] → k = 1 := by
            intro hne
            cases ns with
            | nil => exact absurd rfl hne
            | cons n ns => have := (hxk (.int .u8 n) (by simp)).1; simpa [Pv.cells] using this.symm
          have had : ad = ⟨ad.block, ad.off, none⟩ := by obtain ⟨b, o, sp⟩ := ad; simp only at hsp; subst hsp; rfl
          rw [had, hlen]
          refine run_convert_bytes_arg (P := P) w s e hs he ad.block ad.off ns.length c ns rfl (fun i hi => ?_) t ht
          have hne : ns ≠ [] := by intro h0; rw [h0] at hi; simp at hi
          have hcl := (hcell i (by rw [hk1 hne, hlen]; omega)).1
          have hR := hh i (.int .u8 (ns.getD i 0)) (by rw [flat_ints]; simp [hi])
          rw [hcl]
          rw [hR.int_inv]
      obtain ⟨hrun, hlen⟩ := hrun
      refine .inl ⟨_, w, by simp [execOp, ho, hrun], Lift.mk h1 (h.put d (.str _ _ (strOfNums_data ns) ?_)) (Ext.refl g w) (Fr.refl F g w) hw hn⟩
      simp
      omega
    · exact hw.elim
  · exact hw.elim

theorem run_ms (o : Oper) (t : TypeId) (l c : Operand) (ho : o.op = .makeSlice t l c) {d : Nat} {e : TypeId} {bytes : Nat} {z : Pv} {l' c' : Od} (hd : dstOf nt o.dst = some d) (ht : rowT P t = some (e, 1, bytes)) (hz : zeroOf P e = some [z])
    (hl : odOf nt l = some l') (hc : odOf nt c = some c') : RunSnd P nt o (.ms d e z bytes l' c') := by
  intro C K ρ σ a hn g w own F h hw
  obtain ⟨h1, h2⟩ := dstOf_some hd
  obtain ⟨hu, ⟨ti, hti, hts, hby, zv, hzv, hzs⟩, _, hb0, _⟩ := rowT_some ht
  simp only [Ao.wp] at hw
  split at hw
  · rename_i p q hpl hpc
    obtain ⟨h0, rfl, hbound, hw⟩ := hw
    have r1 := od_plain h hn hl (by rw [hpl]; simp)
    have r2 := od_plain h hn hc (by rw [hpc]; simp)
    rw [hpl] at r1
    rw [hpc] at r2
    have e1 := r1.int_inv
    have e2 := r2.int_inv
    obtain ⟨i2, zv2, hi2, hzv2, hRL⟩ := zeroOf_val hz
    rw [hti] at hi2
    cases hi2
    rw [hzv] at hzv2
    cases hzv2
    have hR := hRL g w
    have hz1 : zv.cells.size = 1 := by omega
    have hple : p ≤ 2 ^ 47 := by
      have h3 : (1 : Int) * p ≤ bytes * p := Int.mul_le_mul_of_nonneg_right (by omega) h0
      omega
    have hwrap : IntKind.i64.wrap p = p := IntWalk.i64_in p (by omega)
    obtain ⟨v0, hv0⟩ : ∃ v0, zv.cells = #[v0] := by
      refine ⟨zv.cells[0], ?_⟩
      apply Array.ext
      · simp [hz1]
      · intro i h1 h2
        simp at h2
        subst h2
        rfl
    obtain ⟨g', own', hI, hE, hF, hP, hgn, hgb⟩ := h.push (List.replicate p.toNat z.shr) (Array.replicate p.toNat v0) e (by simp) (fun j x hj => by
      have hjl : j < p.toNat := by have := (List.getElem?_eq_some_iff.1 hj).1; simpa using this
      refine ⟨v0, by simp [hjl], ?_⟩
      have : x = z.shr := by
        rw [List.getElem?_replicate] at hj
        simp [hjl] at hj
        exact hj.symm
      subst this
      exact (hR.2 0 z v0 rfl (by rw [hv0]; rfl)).shr)
    have hrow : ((Array.range p.toNat).map fun k => zv.cells[k % zv.cells.size]!) = Array.replicate p.toNat v0 := by
      apply Array.ext
      · simp
      · intro i h1 h2
        simp [hv0, Nat.mod_one]
    have hrun : (Instr.makeSlice t (.int .i64 p) (.int .i64 p)).run P w = .ok (.slice (some ⟨w.heap.size, 0, none⟩) p.toNat p.toNat) (w.alloc (.cells (Array.replicate p.toNat v0) e)) := by
      have hsz := run_sizeT (P := P) (t := e) (n := 1) (by simp [sizeT, hti, hts]) w
      have hty : (typeInfo e).run P w = .ok ti w := by simp [typeInfo, hti]
      have hzr : (zeroValue e).run P w = .ok zv w := by simp [zeroValue, hty, hzv]
      have hask : (askRoom (p.toNat * ti.bytes)).run P w = .ok () w := by unfold askRoom; split <;> rfl
      have hn1 : ¬ p < 0 := by omega
      have hn2 : ¬ ((ti.bytes : Int) * p > 2 ^ 48) := by rw [hby]; omega
      simp only [Instr.makeSlice]
      have hn2' : ¬ ((2 : Int) ^ 48 < (ti.bytes : Int) * p) := hn2
      simp only [Sem.run_bind, run_underlying hu, Result.andThen_ok, asInt, asIntOf, Sem.run_pure, hty, hwrap]
      rw [if_neg (by simp only [Bool.or_eq_true, decide_eq_true_eq, not_or, Int.not_lt, gt_iff_lt]; exact ⟨⟨⟨h0, by omega⟩, h0⟩, Int.le_refl _⟩)]
      simp only [Sem.run_bind, Sem.run_pure, Result.andThen_ok, hask, hsz, Nat.mul_one]
      by_cases hp0 : p.toNat = 0
      · rw [if_pos hp0]
        simp only [Sem.run_bind, Sem.run_pure, Result.andThen_ok, hp0]
        simp [newRow]
        congr 2
        apply Array.ext <;> simp
      · rw [if_neg hp0]
        simp only [Sem.run_bind, hzr, Result.andThen_ok, Sem.run_pure, hrow]
        simp [newRow]
    refine .inl ⟨.slice (some ⟨w.heap.size, 0, none⟩) p.toNat p.toNat, w.alloc (.cells (Array.replicate p.toNat v0) e), ?_, Lift.mk h1 (hI.put d ?_) hE hF hw hn⟩
    · simp [execOp, ho, e1, e2, hrun]
    · have := R.bsl (g := g') (w := w.alloc (.cells (Array.replicate p.toNat v0) e)) σ.n 0 p.toNat p.toNat (by omega) (Nat.le_refl _) (by omega)
      rw [hgb] at this
      exact this
  · exact hw.elim

end Gx
