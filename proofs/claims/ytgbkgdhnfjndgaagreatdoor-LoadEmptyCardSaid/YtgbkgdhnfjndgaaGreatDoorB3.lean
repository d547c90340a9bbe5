import Derived.Test.YtgbkgdhnfjndgaaGreatDoorB2
/- A part of the proof: a calculus of values over the model, and the functions that the statement reaches, each once, in that calculus. -/
set_option linter.all false
set_option linter.unusedSimpArgs false
set_option linter.unusedVariables false

/- Part Gx13. -/
/- Calls. -/
namespace Gx
open Go hiding sizeOf

variable {P : Program} {G : Nat → Option Obj} {g : Gh} {w : World} {σ : St} {ρ : Env} {a : Act} {own : Pl → Option Nat} {F : Nat → Prop} {nt : Nat}

/-- A slot gets a value with what it owns. -/
theorem Inv.putS {tm : Array Value} (h : Inv g w σ ρ tm own F) (d : Nat) {x : Pv} {v : Value} {o : Option Nat} (hS : S g w x v o) (ho : ∀ b, o = some b → (∀ p, own p = some b → p = .s d) ∧ ¬ F b) :
    ∃ own', Inv g w σ (Gx.put ρ d x) (tm.setIfInBounds d v) own' F := by
  cases hS with
  | sh hr => exact ⟨_, h.put d hr⟩
  | own hr => obtain ⟨h1, h2⟩ := ho _ rfl; exact ⟨_, h.putOwn d hr h1 h2⟩

/-- Boxes are shutbed. -/
theorem Inv.shutb {tm : Array Value} (h : Inv g w σ ρ tm own F) (x : Pv) (hx : ∀ b off n, x = .bsl b off n → b < σ.n) :
    ∃ g', Inv g' w (σ.shutb x) ρ tm own F ∧ Ext g w g' w ∧ Fr F g w g' w ∧ g'.bl = g.bl ∧ g'.n = g.n ∧ (∀ b, g.z b = none → g'.z b = none) ∧ (∀ b off n, x = .bsl b off n → g'.z (g.bl b) = none) := by
  cases x with
  | bsl b off n =>
    obtain ⟨h1, e1, f1⟩ := h.shutb1 b (hx b off n rfl)
    refine ⟨_, h1, e1, f1, rfl, rfl, fun c hc => ?_, fun b' _ _ he => ?_⟩
    · simp only [Gh.zset]; split
      · rfl
      · exact hc
    · cases he; simp [Gh.zset]
  | _ => exact ⟨g, h, Ext.refl g w, Fr.refl F g w, rfl, rfl, fun _ h => h, fun _ _ _ he => by cases he⟩

theorem shutb_n (σ : St) (x : Pv) : (σ.shutb x).n = σ.n := by cases x <;> rfl
theorem shutb_m (σ : St) (x : Pv) : (σ.shutb x).m = σ.m := by cases x <;> rfl

theorem Inv.shutbs {tm : Array Value} : ∀ (xs : List Pv) {g : Gh} {σ : St}, Inv g w σ ρ tm own F → (∀ b off n, Pv.bsl b off n ∈ xs → b < σ.n) →
    ∃ g', Inv g' w (σ.shutbs xs) ρ tm own F ∧ Ext g w g' w ∧ Fr F g w g' w ∧ g'.bl = g.bl ∧ g'.n = g.n ∧ (∀ b, g.z b = none → g'.z b = none) ∧ (∀ b off n, Pv.bsl b off n ∈ xs → g'.z (g.bl b) = none)
  | [], g, σ, h, _ => ⟨g, h, Ext.refl g w, Fr.refl F g w, rfl, rfl, fun _ h => h, fun _ _ _ he => by simp at he⟩
  | x :: xs, g, σ, h, hx => by
    obtain ⟨g1, h1, e1, f1, b1, n1, z1, s1⟩ := h.shutb x (fun b off n he => hx b off n (by simp [he]))
    obtain ⟨g2, h2, e2, f2, b2, n2, z2, s2⟩ := Inv.shutbs xs h1 (fun b off n he => by rw [shutb_n]; exact hx b off n (by simp [he]))
    refine ⟨g2, h2, e1.trans e2, f1.trans f2, b2.trans b1, n2.trans n1, fun b hb => z2 b (z1 b hb), fun b off n he => ?_⟩
    rcases List.mem_cons.1 he with he | he
    · exact z2 _ (s1 b off n he.symm)
    · have := s2 b off n he
      rw [b1] at this
      exact this

/-- An argument, asq it is handed over. -/
theorem arg_R {g1 : Gh} {tm : Array Value} (h : Inv g w σ ρ tm own F) (e : Ext g w g1 w) (hbl : g1.bl = g.bl) {x : Pv} {v : Value} {o : Option Nat} (hS : S g w x v o) (hok : argOk σ x) (hz : ∀ b off n, x = .bsl b off n → g1.z (g.bl b) = none) :
    R g1 w (x.arg σ) v := by
  cases hS with
  | own hr => exact (hr.shr).mono e
  | sh hr =>
    cases hr with
    | bsl b off n c hb hc hc2 =>
      obtain ⟨hle, hone⟩ := hok
      obtain ⟨vs, el, b1, b2, b3, b4⟩ := h.box b (h.gn ▸ hb)
      have hlen : ((((σ.m b).drop off).take n).map Pv.shr).length = n := by simp; omega
      have key := R.sl (g := g1) (w := w) ((((σ.m b).drop off).take n).map Pv.shr) ⟨g.bl b, off, none⟩ c 1 (fun j => vs.getD (off + j) undef) rfl (by omega) (by omega) (by omega) (by
        intro x hx
        obtain ⟨y, hy, rfl⟩ := List.mem_map.1 hx
        have hy1 := (List.all_eq_true.1 hone) y (List.mem_of_mem_drop (List.mem_of_mem_take hy))
        cases y <;> simp [Pv.one, Pv.shr, Pv.cells] at hy1 ⊢) (by
        intro j hj
        have hlt : off + j < vs.size := by omega
        refine ⟨by simp [World.cell?, b1, hlt], fun k hk => ?_⟩
        simp only at hk
        rw [hz b off n rfl] at hk
        cases hk) (by
        intro j y hj
        have hflat : ((((σ.m b).drop off).take n).map Pv.shr).flatMap Pv.cells = (((σ.m b).drop off).take n).map Pv.shr := by
          have : ∀ l : List Pv, l.all Pv.one = true → (l.map Pv.shr).flatMap Pv.cells = l.map Pv.shr := by
            intro l
            induction l with
            | nil => intro _; rfl
            | cons y l ih =>
              intro hl
              simp only [List.all_cons, Bool.and_eq_true] at hl
              simp only [List.map_cons, List.flatMap_cons, ih hl.2]
              have h1 := hl.1
              cases y <;> simp [Pv.one, Pv.shr, Pv.cells] at h1 ⊢
          refine this _ ?_
          rw [List.all_eq_true] at hone ⊢
          intro y hy
          exact hone y (List.mem_of_mem_drop (List.mem_of_mem_take hy))
        rw [hflat, List.getElem?_map, Option.map_eq_some_iff] at hj
        obtain ⟨z, hz', rfl⟩ := hj
        rw [List.getElem?_take, List.getElem?_drop] at hz'
        split at hz'
        · obtain ⟨v, hv, hSv⟩ := b4 _ z hz'
          simp only [Array.getD_eq_getD_getElem?, hv, Option.getD_some]
          exact hSv.shr.mono e
        · cases hz')
      rw [hlen] at key
      exact key
    | slnil => exact .slnil false
    | sl xs ad c k vs hsp hc hc2 hk hx hcell h => exact (R.sl xs ad c k vs hsp hc hc2 hk hx hcell h).mono e
    | agg cs vs hl h => exact ((R.agg cs vs hl h).frz).mono e
    | int k n => exact .int k n
    | str l s h hl => exact .str l s h hl
    | bool b => exact .bool b
    | nilp => exact .nilp
    | nilf => exact .nilf
    | nili => exact .nili
    | un => exact .un
    | tup cs vs hl h => exact (R.tup cs vs hl h).mono e
    | ptr b off h => exact (R.ptr b off h).mono e
    | rptr cs off b o vs hcell h => exact (R.rptr cs off b o vs hcell h).mono e
    | clo f fs cs us vs hf hc h1 h2 hlt => exact (R.clo f fs cs us vs hf hc h1 h2 hlt).mono e
    | yld l => exact .yld l

theorem gives_none : ∀ (asq : List (Bool × Od)) (ρ : Env), (asq.filter (·.1)).length = 0 → gives ρ asq = ρ
  | [], ρ, _ => rfl
  | (false, y) :: asq, ρ, h => by
    simp only [gives]
    exact gives_none asq ρ (by simpa using h)
  | (true, y) :: asq, ρ, h => by simp at h

theorem argsOk_at : ∀ {asq : List (Bool × Od)}, argsOk ρ σ asq → ∀ (i : Nat) b y, asq[i]? = some (b, y) → argOk σ (y.ev ρ)
  | [], _, i, b, y, h => by simp at h
  | x :: asq, ho, i, b, y, h => by
    cases i with
    | zero => simp only [List.getElem?_cons_zero, Option.some.injEq] at h; subst h; exact ho.1
    | succ i => exact argsOk_at ho.2 i b y (by simpa using h)

/-- What an argument owns: one of them, at most. -/
def ownAt (own : Pl → Option Nat) : Option (Nat × Nat) → Nat → Option Nat
  | some (j, s), i => if j = i then own (.s s) else none
  | none, _ => none
/-- What the caller's slots are behind that. -/
def givenAt (ρ : Env) : Option (Nat × Nat) → Env
  | some (_, s) => put ρ s (ρ s).shr
  | none => ρ

/-- The arguments, each with what it owns. -/
theorem args_S {g1 : Gh} (h : Inv g w σ ρ a.tmps own F) (hn : a.tmps.size = nt) (e : Ext g w g1 w) (hbl : g1.bl = g.bl) (hown : ∀ s, s < a.tmps.size → S g1 w (ρ s) (a.tmps.getD s undef) (own (.s s))) : ∀ (asq : List (Bool × Od)) (xs : List Operand), asq.length = xs.length →
    (∀ (i : Nat) b y x, asq[i]? = some (b, y) → xs[i]? = some x → odOf nt x = some y) → (asq.filter (·.1)).length ≤ 1 → argsOk ρ σ asq → (∀ (i : Nat) b y c off n, asq[i]? = some (b, y) → y.ev ρ = .bsl c off n → g1.z (g.bl c) = none) →
    ∃ os : Option (Nat × Nat), (∀ (i : Nat) b y x, asq[i]? = some (b, y) → xs[i]? = some x → S g1 w (argv ρ σ (b, y)) (a.eval x) (ownAt own os i)) ∧ gives ρ asq = givenAt ρ os ∧ ∀ j s, os = some (j, s) → s < nt ∧ j < asq.length
  | [], xs, _, _, _, _, _ => ⟨none, fun i b y x h => by simp at h, rfl, fun j s h => by cases h⟩
  | (b, y) :: asq, [], hl, _, _, _, _ => by simp at hl
  | (b, y) :: asq, x :: xs, hl, ho, hc, hok, hz => by
    have h0 := ho 0 b y x rfl rfl
    have hfst : (∀ s, (b, y) ≠ (true, .t s)) → R g1 w (argv ρ σ (b, y)) (a.eval x) := by
      intro hb
      obtain ⟨o, hS⟩ := od_S h hn h0
      have harg : argv ρ σ (b, y) = (y.ev ρ).arg σ := by
        unfold argv
        split
        · rename_i he; exact absurd he (hb _)
        · rename_i he; cases he; rfl
      rw [harg]
      exact arg_R h e hbl hS hok.1 fun c off n hc => hz 0 b y c off n rfl hc
    by_cases hb : ∃ s, (b, y) = (true, .t s)
    · obtain ⟨s, he⟩ := hb
      cases he
      have hrest : (asq.filter (·.1)).length = 0 := by simp at hc ⊢; exact hc
      obtain ⟨rfl, hs⟩ := od_slot h0
      refine ⟨some (0, s), fun i b' y' x' hi hx' => ?_, ?_, fun j t ht => by cases ht; exact ⟨hs, by simp⟩⟩
      · cases i with
        | zero =>
          simp only [List.getElem?_cons_zero, Option.some.injEq] at hi hx'
          cases hi
          subst hx'
          simp only [ownAt, if_true, argv]
          exact hown s (by omega)
        | succ i =>
          show S g1 w _ _ (if 0 = i + 1 then own (.s s) else none)
          rw [if_neg (Nat.succ_ne_zero i).symm]
          simp only [List.getElem?_cons_succ] at hi hx'
          have hb' : b' = false := by
            cases b' with
            | false => rfl
            | true =>
              have : (true, y') ∈ asq.filter (·.1) := List.mem_filter.2 ⟨List.mem_of_getElem? hi, rfl⟩
              have := List.length_pos_of_mem this
              omega
          subst hb'
          obtain ⟨o, hS⟩ := od_S h hn (ho (i + 1) false y' x' (by simpa using hi) (by simpa using hx'))
          have : argv ρ σ (false, y') = (y'.ev ρ).arg σ := by simp [argv]
          rw [this]
          exact .sh (arg_R h e hbl hS (argsOk_at hok (i + 1) false y' (by simpa using hi)) fun c off n hc => hz (i + 1) false y' c off n (by simpa using hi) hc)
      · simp only [gives]
        exact gives_none asq _ hrest
    · have hb' : ∀ s, (b, y) ≠ (true, .t s) := fun s he => hb ⟨s, he⟩
      obtain ⟨os, h1, h2, h3⟩ := args_S h hn e hbl hown asq xs (by simpa using hl) (fun i b y x hi hx => ho (i + 1) b y x (by simpa using hi) (by simpa using hx)) (by
        refine Nat.le_trans ?_ hc
        rw [List.filter_cons]
        split
        · simp
        · exact Nat.le_refl _) hok.2 (fun i b y c off n hi => hz (i + 1) b y c off n (by simpa using hi))
      refine ⟨os.map fun p => (p.1 + 1, p.2), fun i b' y' x' hi hx' => ?_, ?_, fun j s hj => ?_⟩
      · cases i with
        | zero =>
          simp only [List.getElem?_cons_zero, Option.some.injEq] at hi hx'
          cases hi
          subst hx'
          have := hfst hb'
          cases os with
          | none => exact .sh this
          | some p => simp only [Option.map_some, ownAt, Nat.add_one_ne_zero, if_false]; exact .sh this
        | succ i =>
          have := h1 i b' y' x' (by simpa using hi) (by simpa using hx')
          cases os with
          | none => exact this
          | some p => simpa [ownAt] using this
      · have hg : gives ρ ((b, y) :: asq) = gives ρ asq := by
          cases b with
          | false => rfl
          | true =>
            cases y with
            | t s => exact absurd rfl (hb' s)
            | c v => rfl
        rw [hg, h2]
        cases os <;> rfl
      · rw [Option.map_eq_some_iff] at hj
        obtain ⟨p, hp, he⟩ := hj
        cases he
        obtain ⟨h4, h5⟩ := h3 p.1 p.2 hp
        exact ⟨h4, by simp; omega⟩

/-- An operation, whatever it is. -/
def OpSnd (P : Program) (G : Nat → Option Obj) (nt : Nat) (o : Oper) (ao : Ao) : Prop :=
  ∀ (K : Env → St → Prop) (ρ : Env) (σ : St) (a : Act), a.tmps.size = nt → ∀ (g : Gh) (w : World) (own : Pl → Option Nat) (F : Nat → Prop), GL G g w → Inv g w σ ρ a.tmps own F → ao.wp (ARet P G) K ρ σ →
    ∀ Q, o.wp P a w (Lift nt F g w a.defers K) Q

theorem RunSnd.op {o : Oper} {ao : Ao} (h : RunSnd P nt o ao) : OpSnd P G nt o ao := by
  intro K ρ σ a hn g w own F _ hi hw Q
  unfold Oper.wp
  rcases h (ARet P G) K ρ σ a hn g w own F hi hw with ⟨v, w', h1, h2⟩ | ⟨w', h1, h2⟩
  · rw [h1]; exact h2
  · rw [h1]; exact h2

theorem getD_append {α : Type} (xs ys : List α) (d : α) (t : Nat) : (xs ++ ys).getD t d = if t < xs.length then xs.getD t d else ys.getD (t - xs.length) d := by
  simp only [List.getD_eq_getElem?_getD, List.getElem?_append]
  split <;> rfl

/-- A call's two halves: what the callee is entered with; and the caller's state behind it. -/
theorem ca_gen (o : Oper) (c : Call) {asq : List (Bool × Od)} (hd : ∀ d, o.dst = some d → d < nt) (hl : asq.length = c.args.toList.length)
    (has : ∀ (i : Nat) b y x, asq[i]? = some (b, y) → c.args.toList[i]? = some x → odOf nt x = some y) (h1c : (asq.filter (·.1)).length ≤ 1) (hn : a.tmps.size = nt)
    (h : Inv g w σ ρ a.tmps own F) {fs cs : List Pv} {us vs : Array Value} (hfl : fs.length = us.size) (hcl : cs.length = vs.size)
    (r1 : ∀ (i : Nat) x v, fs[i]? = some x → us[i]? = some v → R g w x v) (r2 : ∀ (i : Nat) x v, cs[i]? = some x → vs[i]? = some v → R g w x v) (hok : argsOk ρ σ asq) (r : Pv) (σ' : St) (X : Nat → Prop) (hX : ∀ x, X x → F x) :
    ∃ g1 ownC FC, Ext g w g1 w ∧ Fr F g w g1 w ∧ (us ++ c.args.map a.eval ++ vs).size = (fs ++ asq.map (fun x => argv ρ σ x) ++ cs).length ∧
      Inv g1 w (σ.shutbs (asq.map fun x => x.2.ev ρ)) (fun t => (fs ++ asq.map (fun x => argv ρ σ x) ++ cs).getD t .un) (us ++ c.args.map a.eval ++ vs) ownC FC ∧ (∀ x, F x → FC x) ∧
      ∀ v w' g2 own2, Inv g2 w' σ' (fun _ => r) #[v] own2 FC → Ext g1 w g2 w' → (∀ x, FC x → ¬ X x → w'.heap[x]? = w.heap[x]? ∧ g2.z x = g1.z x) → ∀ K : Env → St → Prop, K (optPut (gives ρ asq) o.dst r) σ' →
        ∃ ρ' g' own', Inv g' w' σ' ρ' (a.put o.dst v).tmps own' F ∧ Ext g w g' w' ∧ (∀ x, F x → ¬ X x → w'.heap[x]? = w.heap[x]? ∧ g'.z x = g.z x) ∧ K ρ' σ' ∧ (a.put o.dst v).tmps.size = nt ∧ (a.put o.dst v).defers = a.defers ∧ g' = g2 := by
  -- the boxes that are handed over
  obtain ⟨g1, hI1, hE1, hF1, hb1, hn1, _, hz1⟩ := h.shutbs (asq.map fun x => x.2.ev ρ) (fun b off n hm => by
    obtain ⟨x, hx, he⟩ := List.mem_map.1 hm
    obtain ⟨i, hi⟩ := List.getElem?_of_mem hx
    have hil : i < c.args.toList.length := by have := (List.getElem?_eq_some_iff.1 hi).1; omega
    have hod := has i x.1 x.2 _ hi (List.getElem?_eq_getElem hil)
    have := od_R h hn hod
    rw [he] at this
    simp only [Pv.shr] at this
    generalize a.eval c.args.toList[i] = u at this
    cases this with
    | bsl _ _ _ _ hb => exact h.gn ▸ hb)
  obtain ⟨os, hS, hg, hos⟩ := args_S h hn hE1 hb1 hI1.slot asq c.args.toList hl has h1c hok (fun i b y cc off n hi hy => hz1 cc off n (List.mem_map.2 ⟨(b, y), List.mem_of_getElem? hi, hy⟩))
  -- what the callee owns, and what the caller keeps
  let own1 : Nat → Option Nat := fun t => match os with
    | some (_, s) => if t = s then none else own (.s t)
    | none => own (.s t)
  let ownC : Pl → Option Nat := fun p => match p with
    | .s t => if fs.length ≤ t then ownAt own os (t - fs.length) else none
    | .c b j => own (.c b j)
    | .b b => own (.b b)
  let FC : Nat → Prop := fun x => F x ∨ ∃ t, own1 t = some x
  have hown1 : ∀ t x, own1 t = some x → own (.s t) = some x ∧ ∀ j s, os = some (j, s) → t ≠ s := by
    intro t x ht
    simp only [own1] at ht
    cases os with
    | none => exact ⟨ht, fun j s h => by cases h⟩
    | some p =>
      obtain ⟨j, s⟩ := p
      simp only at ht
      split at ht
      · cases ht
      · rename_i hne; exact ⟨ht, fun j' s' he => by cases he; exact hne⟩
  have hownC : ∀ t x, ownC (.s t) = some x → ∃ j s, os = some (j, s) ∧ t = fs.length + j ∧ own (.s s) = some x := by
    intro t x ht
    simp only [ownC] at ht
    split at ht
    · cases os with
      | none => cases ht
      | some p =>
        obtain ⟨j, s⟩ := p
        simp only [ownAt] at ht
        split at ht
        · rename_i he; exact ⟨j, s, rfl, by omega, ht⟩
        · cases ht
    · cases ht
  have hvsz : (us ++ c.args.map a.eval ++ vs).size = (fs ++ asq.map (fun x => argv ρ σ x) ++ cs).length := by
    simp only [Array.size_append, Array.size_map, List.length_append, List.length_map, hfl, hcl, hl, Array.length_toList]
  have hInvC : Inv g1 w (σ.shutbs (asq.map fun x => x.2.ev ρ)) (fun t => (fs ++ asq.map (fun x => argv ρ σ x) ++ cs).getD t .un) (us ++ c.args.map a.eval ++ vs) ownC FC := by
    refine ⟨hI1.gn, ?_, hI1.box, hI1.blk, ?_, ?_, ?_, ?_⟩
    · intro t ht
      have hSR : ∀ (xs : List Pv) (ws : Array Value), xs.length = ws.size → (∀ (i : Nat) x v, xs[i]? = some x → ws[i]? = some v → R g w x v) → ∀ i, i < ws.size → S g1 w (xs.getD i .un) (ws.getD i undef) none := by
        intro xs ws hl' hR i hi
        have h1 : xs[i]? = some (xs[i]'(by omega)) := List.getElem?_eq_getElem (by omega)
        rw [List.getD_eq_getElem?_getD, h1, Array.getD_eq_getD_getElem?, Array.getElem?_eq_getElem hi]
        exact .sh ((hR i _ _ h1 (Array.getElem?_eq_getElem hi)).mono hE1)
      simp only [Array.size_append, Array.size_map] at ht
      have hget : (us ++ c.args.map a.eval ++ vs).getD t undef = if t < us.size then us.getD t undef else if t < us.size + c.args.size then (c.args.map a.eval).getD (t - us.size) undef else vs.getD (t - us.size - c.args.size) undef := by
        simp only [Array.getD_eq_getD_getElem?, Array.getElem?_append, Array.size_append, Array.size_map]
        by_cases h1 : t < us.size
        · have h2 : t < us.size + c.args.size := by omega
          simp only [h1, h2, if_true]
        · by_cases h2 : t < us.size + c.args.size
          · simp only [h1, h2, if_true, if_false]
          · simp only [h1, h2, if_false, Nat.sub_add_eq]
      have hget2 : (fs ++ asq.map (fun x => argv ρ σ x) ++ cs).getD t .un = if t < us.size then fs.getD t .un else if t < us.size + c.args.size then (asq.map fun x => argv ρ σ x).getD (t - us.size) .un else cs.getD (t - us.size - c.args.size) .un := by
        have e1 : fs.length = us.size := hfl
        have e2 : (asq.map fun x => argv ρ σ x).length = c.args.size := by rw [List.length_map, hl, Array.length_toList]
        rw [getD_append, getD_append, List.length_append, e1, e2]
        by_cases h1 : t < us.size
        · have h2 : t < us.size + c.args.size := by omega
          simp only [h1, h2, if_true]
        · by_cases h2 : t < us.size + c.args.size
          · simp only [h1, h2, if_true, if_false]
          · simp only [h1, h2, if_false, Nat.sub_add_eq]
      rw [hget, hget2]
      by_cases h1 : t < us.size
      · rw [if_pos h1, if_pos h1]
        have : ownC (.s t) = none := by
          cases hq : ownC (.s t) with
          | none => rfl
          | some x => obtain ⟨j, s, _, he, _⟩ := hownC t x hq; omega
        rw [this]
        exact hSR fs us hfl r1 t h1
      · rw [if_neg h1, if_neg h1]
        by_cases h2 : t < us.size + c.args.size
        · rw [if_pos h2, if_pos h2]
          have hi : t - us.size < asq.length := by rw [hl, Array.length_toList]; omega
          have hi2 : t - us.size < c.args.toList.length := by omega
          have e1 : asq[t - us.size]? = some asq[t - us.size] := List.getElem?_eq_getElem hi
          have e2 : c.args.toList[t - us.size]? = some c.args.toList[t - us.size] := List.getElem?_eq_getElem hi2
          have := hS (t - us.size) _ _ _ (by rw [e1]) e2
          rw [List.getD_eq_getElem?_getD, List.getElem?_map, e1, Array.getD_eq_getD_getElem?, Array.getElem?_map]
          rw [Array.getElem?_toList] at e2
          rw [e2]
          simp only [Option.map_some, Option.getD_some]
          have ho : ownC (.s t) = ownAt own os (t - us.size) := by
            simp only [ownC, hfl]
            rw [if_pos (by omega)]
          rw [ho]
          exact this
        · rw [if_neg h2, if_neg h2]
          have : ownC (.s t) = none := by
            cases hq : ownC (.s t) with
            | none => rfl
            | some x =>
              obtain ⟨j, s, hos', he, _⟩ := hownC t x hq
              have := (hos j s hos').2
              rw [hl, Array.length_toList] at this
              omega
          rw [this]
          exact hSR cs vs hcl r2 _ (by omega)
    · intro p q x hp hq
      have key : ∀ p, ownC p = some x → (∃ t j s, p = .s t ∧ os = some (j, s) ∧ t = fs.length + j ∧ own (.s s) = some x) ∨ ((∀ t, p ≠ .s t) ∧ own p = some x) := by
        intro p hp
        cases p with
        | s t => obtain ⟨j, s, h1, h2, h3⟩ := hownC t x hp; exact .inl ⟨t, j, s, rfl, h1, h2, h3⟩
        | c b j => exact .inr ⟨by simp, hp⟩
        | b b => exact .inr ⟨by simp, hp⟩
      rcases key p hp with ⟨t, j, s, rfl, h1, h2, h3⟩ | ⟨h1, h2⟩ <;> rcases key q hq with ⟨t', j', s', rfl, h1', h2', h3'⟩ | ⟨h1', h2'⟩
      · rw [h1] at h1'; cases h1'; rw [h2, h2']
      · exact absurd (h.inj _ _ x h3 h2').symm (h1' s)
      · exact absurd (h.inj _ _ x h3' h2).symm (h1 s')
      · exact h.inj _ _ x h2 h2'
    · intro p x hp hFx
      have key : (∃ j s, os = some (j, s) ∧ own (.s s) = some x) ∨ ((∀ t, p ≠ .s t) ∧ own p = some x) := by
        cases p with
        | s t => obtain ⟨j, s, h1, _, h3⟩ := hownC t x hp; exact .inl ⟨j, s, h1, h3⟩
        | c b j => exact .inr ⟨by simp, hp⟩
        | b b => exact .inr ⟨by simp, hp⟩
      rcases hFx with hFx | ⟨t, ht⟩
      · rcases key with ⟨j, s, _, h3⟩ | ⟨_, h2⟩
        · exact h.dis _ x h3 hFx
        · exact h.dis _ x h2 hFx
      · obtain ⟨h4, h5⟩ := hown1 t x ht
        rcases key with ⟨j, s, h1, h3⟩ | ⟨h1, h2⟩
        · have := h.inj _ _ x h4 h3
          cases this
          exact h5 j t h1 rfl
        · exact h1 t (h.inj _ _ x h2 h4)
    · intro p x hp
      cases p with
      | s t => obtain ⟨j, s, _, _, h3⟩ := hownC t x hp; exact h.lt _ x h3
      | c b j => exact h.lt _ x hp
      | b b => exact h.lt _ x hp
    · rintro x (hx | ⟨t, ht⟩)
      · exact h.flt x hx
      · exact h.lt _ x (hown1 t x ht).1
  refine ⟨g1, ownC, FC, hE1, hF1, hvsz, hInvC, fun x hx => .inl hx, fun v w' g2 own2 hI2 hE2 hF2 K hK => ?_⟩
  -- the caller again
  have hE := hE1.trans hE2
  have hInv : Inv g2 w' σ' (gives ρ asq) a.tmps (fun p => match p with
      | .s t => own1 t
      | .c b j => own2 (.c b j)
      | .b b => own2 (.b b)) F := by
    have hI2' := hI2
    refine ⟨hI2.gn, ?_, hI2.box, hI2.blk, ?_, ?_, ?_, ?_⟩
    · intro t ht
      have hS1 := hI1.slot t ht
      have hk : ∀ b, own1 t = some b → w'.heap[b]? = w.heap[b]? ∧ g2.z b = g1.z b := fun b hb => hF2 b (.inr ⟨t, hb⟩) (fun hx => h.dis _ b (hown1 t b hb).1 (hX b hx))
      rw [hg]
      cases os with
      | none => exact hS1.keep hE2 hk
      | some p =>
        obtain ⟨j, s⟩ := p
        by_cases hts : t = s
        · subst hts
          simp only [givenAt, put_same, own1, if_true]
          exact .sh (hS1.shr.mono hE2)
        · simp only [givenAt, put_ne _ _ hts, own1, hts, if_false] at hk ⊢
          exact hS1.keep hE2 hk
    · have key : ∀ p x, (match p with
          | .s t => own1 t
          | .c b j => own2 (.c b j)
          | .b b => own2 (.b b)) = some x → (∃ t, p = .s t ∧ own1 t = some x) ∨ ((∀ t, p ≠ .s t) ∧ own2 p = some x) := by
        intro p x hp
        cases p with
        | s t => exact .inl ⟨t, rfl, hp⟩
        | c b j => exact .inr ⟨by simp, hp⟩
        | b b => exact .inr ⟨by simp, hp⟩
      intro p q x hp hq
      rcases key p x hp with ⟨t, rfl, h1⟩ | ⟨h1, h2⟩ <;> rcases key q x hq with ⟨t', rfl, h1'⟩ | ⟨h1', h2'⟩
      · exact h.inj _ _ x (hown1 t x h1).1 (hown1 t' x h1').1
      · exact absurd (.inr ⟨t, h1⟩) (hI2.dis q x h2')
      · exact absurd (.inr ⟨t', h1'⟩) (hI2.dis p x h2)
      · exact hI2.inj _ _ x h2 h2'
    · intro p x hp hFx
      cases p with
      | s t => exact h.dis _ x (hown1 t x hp).1 hFx
      | c b j => exact hI2.dis _ x hp (.inl hFx)
      | b b => exact hI2.dis _ x hp (.inl hFx)
    · intro p x hp
      cases p with
      | s t => exact Nat.lt_of_lt_of_le (h.lt _ x (hown1 t x hp).1) hE.size
      | c b j => exact hI2.lt _ x hp
      | b b => exact hI2.lt _ x hp
    · intro x hx
      exact Nat.lt_of_lt_of_le (h.flt x hx) hE.size
  have hFr : ∀ x, F x → ¬ X x → w'.heap[x]? = w.heap[x]? ∧ g2.z x = g.z x := fun x hx hn => ⟨(hF2 x (.inl hx) hn).1.trans (hF1 x hx).1, (hF2 x (.inl hx) hn).2.trans (hF1 x hx).2⟩
  cases hdd : o.dst with
  | none =>
    rw [hdd] at hK
    exact ⟨_, g2, _, hInv, hE, hFr, hK, hn, rfl, rfl⟩
  | some d =>
    rw [hdd] at hK
    have hSr := hI2.slot 0 (by simp)
    obtain ⟨own3, hI3⟩ := hInv.putS d (x := r) (v := v) (o := own2 (.s 0)) (by simpa using hSr) (fun b hb => by
      refine ⟨fun p hp => ?_, fun hFb => hI2.dis _ b hb (.inl hFb)⟩
      cases p with
      | s t => exact absurd (.inr ⟨t, hp⟩) (hI2.dis _ b hb)
      | c b' j => have := hI2.inj _ _ b hp hb; cases this
      | b b' => have := hI2.inj _ _ b hp hb; cases this)
    exact ⟨_, g2, own3, hI3, hE, hFr, hK, by simp [Act.put, hn], rfl, rfl⟩

theorem run_ca (o : Oper) (c : Call) (f : Operand) (ho : o.op = .call c) (hb : c.callee = .value f) {f' : Od} {asq : List (Bool × Od)} (hd : ∀ d, o.dst = some d → d < nt) (hf : odOf nt f = some f') (hl : asq.length = c.args.toList.length)
    (has : ∀ (i : Nat) b y x, asq[i]? = some (b, y) → c.args.toList[i]? = some x → odOf nt x = some y) (h1c : (asq.filter (·.1)).length ≤ 1) : OpSnd P G nt o (.ca o.dst f' asq) := by
  intro K ρ σ a hn g w own F hG h hw Q
  simp only [Ao.wp] at hw
  split at hw
  · rename_i k fs cs hfe
    obtain ⟨hok, r, σ', hC, hK⟩ := hw
    have hrf := od_plain h hn hf (by rw [hfe]; simp)
    rw [hfe] at hrf
    generalize hv : a.eval f = v at hrf
    cases hrf with
    | yld l => exact absurd hC.1.1 (Nat.not_lt.2 (Nat.le_add_right _ _))
    | clo _ _ _ us vs hfl hcl r1 r2 hlt =>
      obtain ⟨g1, ownC, FC, hE1, hF1, hvsz, hInvC, hFC, hback⟩ := ca_gen (nt := nt) (w := w) o c hd hl has h1c hn h hfl hcl r1 r2 hok r σ' (fun _ => False) (fun _ h => h.elim)
      obtain ⟨⟨_, fn, hfn, hname, hbody⟩, hcall⟩ := hC
      have hcalls := hcall g1 w (us ++ c.args.map a.eval ++ vs) ownC FC (hG.mono hE1) hvsz hInvC
      unfold Oper.wp
      have hrun : (execOp a.eval o).run P w = .ok (.enter k (us ++ c.args.map a.eval ++ vs)) w := by
        have hbn : fn.body.isNone = false := by cases hq : fn.body <;> simp [hq] at hbody ⊢
        have hnm : ¬ fn.name = "runtime.NumGoroutine" := by simpa using hname
        have hbn' : ¬ fn.body = none := by intro hq; rw [hq] at hbn; cases hbn
        simp [execOp, ho, resolve, hb, hv, Deferred.ofValue, invoke, callFunc, hfn, hnm, hbn']
      rw [hrun]
      refine Calls.mono hcalls fun e w' hpost => ?_
      obtain ⟨v, rfl, g2, own2, hI2, hE2, hF2⟩ := hpost
      show Lift nt F g w a.defers K (a.put o.dst v) w'
      obtain ⟨ρ', g', own', q1, q2, q3, q4, q5, q6, _⟩ := hback v w' g2 own2 hI2 hE2 (fun x hx _ => hF2 x hx) K hK
      exact ⟨ρ', σ', g', own', q1, q2, fun x hx => q3 x hx (fun h => h), q4, q5, q6⟩
  · exact hw.elim

end Gx

/- Part Gx14. -/
/- Every operation that is taken is sound. -/
namespace Gx
open Go hiding sizeOf

variable {P : Program} {G : Nat → Option Obj} {nt : Nat}

def Both (P : Program) (G : Nat → Option Obj) (nt : Nat) (o : Oper) (ao : Ao) : Prop := (ao.pure = true → PureSnd P nt o ao) ∧ OpSnd P G nt o ao
theorem PureSnd.both {o : Oper} {ao : Ao} (h : PureSnd P nt o ao) : Both P G nt o ao := ⟨fun _ => h, h.run.op⟩
theorem RunSnd.both {o : Oper} {ao : Ao} (h : RunSnd P nt o ao) (hp : ao.pure = false) : Both P G nt o ao := ⟨fun h => by rw [hp] at h; (cases h), h.op⟩

theorem odc {nt : Nat} {x : Operand} {y : Od} (h : odOf nt x = some y) : (∃ s, y = .t s ∧ x = .tmp s ∧ s < nt) ∨ ∃ c, y = .c c := by
  cases y with
  | t s => obtain ⟨h1, h2⟩ := od_slot h; exact .inl ⟨s, rfl, h1, h2⟩
  | c c => exact .inr ⟨c, rfl⟩

theorem both_tk {o : Oper} {x : Operand} (ho : o.op = .move x ∨ o.op = .assign x) {d : Nat} {y : Od} (hd : dstOf nt o.dst = some d) (hy : odOf nt x = some y) : Both P G nt o (.tk d y) := by
  rcases odc hy with ⟨s, rfl, rfl, hs⟩ | ⟨c, rfl⟩
  · exact (run_tk o s ho hd hs).both rfl
  · exact (pure_tk o x ho hd hy).both

theorem bind_some {α β : Type} {x : Option α} {f : α → Option β} {b : β} (h : x.bind f = some b) : ∃ a, x = some a ∧ f a = some b := Option.bind_eq_some_iff.1 h

theorem ownArgs_len (ow : Ow) (f : FuncId) : ∀ (i : Nat) (asq : List Od), (ownArgs ow f i asq).length = asq.length ∧ ∀ (j : Nat) b y, (ownArgs ow f i asq)[j]? = some (b, y) → asq[j]? = some y
  | _, [] => ⟨rfl, fun j b y h => by simp [ownArgs] at h⟩
  | i, x :: xs => by
    obtain ⟨h1, h2⟩ := ownArgs_len ow f (i + 1) xs
    refine ⟨by simp [ownArgs, h1], fun j b y h => ?_⟩
    cases j with
    | zero => simp only [ownArgs, List.getElem?_cons_zero, Option.some.injEq, Prod.mk.injEq] at h; simp [h.2]
    | succ j => simp only [ownArgs, List.getElem?_cons_succ] at h ⊢; exact h2 j b y h

theorem ods_len {nt : Nat} : ∀ {xs : List Operand} {ys : List Od}, odsOf nt xs = some ys → xs.length = ys.length ∧ ∀ (i : Nat) x y, xs[i]? = some x → ys[i]? = some y → odOf nt x = some y
  | [], ys, hh => by simp only [odsOf, Option.some.injEq] at hh; subst hh; exact ⟨rfl, fun i x y hx => by simp at hx⟩
  | x :: xs, ys, hh => by
    simp only [odsOf] at hh
    split at hh
    · rename_i y zs h1 h2
      cases hh
      obtain ⟨l, hr⟩ := ods_len h2
      refine ⟨by simp [l], fun j p q hp hq => ?_⟩
      cases j with
      | zero => simp only [List.getElem?_cons_zero, Option.some.injEq] at hp hq; subst hp; subst hq; exact h1
      | succ j => exact hr j p q (by simpa using hp) (by simpa using hq)
    · cases hh

theorem scalar_2 {t : TypeId} (h : scalarT P t = 2) : P.underlying t = some .bool := by
  unfold scalarT at h
  split at h <;> first | assumption | (exfalso; omega)
theorem scalar_3 {t : TypeId} (h : scalarT P t = 3) : ∃ e, P.underlying t = some (.pointer e) := by
  unfold scalarT at h
  split at h <;> first | exact ⟨_, by assumption⟩ | (exfalso; omega)
theorem scalar_lt (t : TypeId) : scalarT P t < 4 := by
  unfold scalarT
  split <;> omega

theorem lone1_some {α : Type} {l : List α} {a : α} (h : lone1 l = some a) : l = [a] := by
  unfold lone1 at h
  split at h
  · cases h; rfl
  · cases h
theorem pair2_some {α : Type} {l : List α} {a b : α} (h : pair2 l = some (a, b)) : l = [a, b] := by
  unfold pair2 at h
  split at h
  · cases h; rfl
  · cases h
theorem arr_of {α : Type} {a : Array α} {l : List α} (h : a.toList = l) : a = l.toArray := by rw [← h]

theorem callArgs_ok {ow : Ow} {f : Operand} {xs : List Operand} {asq : List Od} (has : odsOf nt xs = some asq) :
    (callArgs ow f asq).length = xs.length ∧ ∀ (i : Nat) b y x, (callArgs ow f asq)[i]? = some (b, y) → xs[i]? = some x → odOf nt x = some y := by
  obtain ⟨l1, l2⟩ := ods_len has
  have hmap : (asq.map fun x => (false, x)).length = xs.length ∧ ∀ (i : Nat) b y x, (asq.map fun x => (false, x))[i]? = some (b, y) → xs[i]? = some x → odOf nt x = some y := by
    refine ⟨by simp [l1], fun i b y x hi hx => ?_⟩
    rw [List.getElem?_map, Option.map_eq_some_iff] at hi
    obtain ⟨q, hq, he⟩ := hi
    cases he
    exact l2 i x _ hx hq
  cases f with
  | func k =>
    obtain ⟨o1, o2⟩ := ownArgs_len ow k 0 asq
    exact ⟨by simp only [callArgs]; omega, fun i b y x hi hx => l2 i x y hx (o2 i b y hi)⟩
  | tmp t => exact hmap
  | const v => exact hmap
  | global n => exact hmap

set_option maxHeartbeats 1000000 in
theorem cOp0_snd (ow : Ow) (ops : Array Oper) (o : Oper) (ao : Ao) (h : cOp0 P ow nt ops o = some ao) : Both P G nt o ao := by
  unfold cOp0 at h
  simp only [Option.bind_eq_bind, Option.pure_def] at h
  cases hop : o.op <;> rw [hop] at h <;> simp only at h <;> try (cases h; done)
  case move x =>
    obtain ⟨d, hd, h⟩ := bind_some h
    obtain ⟨y, hy, h⟩ := bind_some h
    split at h <;> cases h
    · exact both_tk (.inl hop) hd hy
    · exact (pure_mv o x (.inl hop) hd hy).both
  case assign x =>
    obtain ⟨d, hd, h⟩ := bind_some h
    obtain ⟨y, hy, h⟩ := bind_some h
    cases h
    exact both_tk (.inr hop) hd hy
  case pick c a b =>
    obtain ⟨d, hd, h⟩ := bind_some h
    obtain ⟨c', hc, h⟩ := bind_some h
    obtain ⟨a', ha, h⟩ := bind_some h
    obtain ⟨b', hb, h⟩ := bind_some h
    cases h
    exact (pure_pk o c a b hop hd hc ha hb).both
  case alloc t =>
    obtain ⟨d, hd, h⟩ := bind_some h
    obtain ⟨z, hz, h⟩ := bind_some h
    cases h
    exact (run_al o t hop hd hz).both rfl
  case box t x =>
    obtain ⟨d, hd, h⟩ := bind_some h
    obtain ⟨n, hn, h⟩ := bind_some h
    obtain ⟨y, hy, h⟩ := bind_some h
    cases h
    exact (run_bx o t x hop hd hy).both rfl
  case build t ps =>
    obtain ⟨fs, hf, h⟩ := bind_some h
    obtain ⟨pl, hpl, h⟩ := bind_some h
    obtain ⟨d, hd, h⟩ := bind_some h
    obtain ⟨z, hz, h⟩ := bind_some h
    obtain ⟨qs, hq, h⟩ := bind_some h
    cases h
    exact (pure_bd o t ps hop hd hf hpl hz hq).both
  case buildSlice t n ps =>
    obtain ⟨r, hr, h⟩ := bind_some h
    obtain ⟨e, sz, by_⟩ := r
    simp only at h
    split at h
    · rename_i hc
      obtain ⟨d, hd, h⟩ := bind_some h
      obtain ⟨ys, hy, h⟩ := bind_some h
      cases h
      exact (run_bs o t n ps hop hd hr hc.1 hc.2 hy).both rfl
    · cases h
  case load t x =>
    obtain ⟨d, hd, h⟩ := bind_some h
    obtain ⟨y, hy, h⟩ := bind_some h
    obtain ⟨ag, hag, h⟩ := bind_some h
    cases ag with
    | some n =>
      cases h
      exact (run_ld o t x hop hd hy hag).both rfl
    | none =>
      simp only at h
      split at h <;> cases h
      · exact (run_lt o t x hop hd hy hag).both rfl
      · exact (run_ld o t x hop hd hy hag).both rfl
  case store t x v =>
    obtain ⟨n, hn, h⟩ := bind_some h
    split at h
    · rename_i hc
      obtain ⟨x', hx, h⟩ := bind_some h
      obtain ⟨v', hv, h⟩ := bind_some h
      cases h
      exact (run_st o t x v hop (by simpa using hc.1) hx hv hn hc.2).both rfl
    · cases h
  case nilCheck x =>
    obtain ⟨d, hd, h⟩ := bind_some h
    obtain ⟨y, hy, h⟩ := bind_some h
    cases h
    exact (pure_nc o x hop hd hy).both
  case binOp op t x y t' =>
    obtain ⟨d, hd, h⟩ := bind_some h
    obtain ⟨x', hx, h⟩ := bind_some h
    obtain ⟨y', hy, h⟩ := bind_some h
    split at h
    · cases h
      exact (pure_bi o op t t' x y hop hd hx hy).both
    · rename_i hk1
      split at h
      · rename_i hk
        cases op <;> simp only at h <;> try (cases h; done)
        · cases h
          refine (pure_bq o false t t' x y (by simpa using hop) hd hx hy ?_).both
          rcases hk with hk | hk
          · simp only [hk, beq_self_eq_true, if_true]; exact scalar_2 hk
          · simp only [hk, show (3 == 2) = false from rfl, Bool.false_eq_true, if_false]; exact scalar_3 hk
        · cases h
          refine (pure_bq o true t t' x y (by simpa using hop) hd hx hy ?_).both
          rcases hk with hk | hk
          · simp only [hk, beq_self_eq_true, if_true]; exact scalar_2 hk
          · simp only [hk, show (3 == 2) = false from rfl, Bool.false_eq_true, if_false]; exact scalar_3 hk
      · rename_i hk
        have hk0 : scalarT P t = 0 := by have := scalar_lt (P := P) t; omega
        split at h
        · cases h
        · rename_i hg
          cases op <;> simp only at h <;> try (cases h; done)
          · obtain ⟨ks, hks, h⟩ := bind_some h
            cases h
            exact (pure_eq o false t t' x y (by simpa using hop) hd hx hy hks (by simpa using hg) hk0).both
          · obtain ⟨ks, hks, h⟩ := bind_some h
            cases h
            exact (pure_eq o true t t' x y (by simpa using hop) hd hx hy hks (by simpa using hg) hk0).both
  case unOp op t x =>
    obtain ⟨d, hd, h⟩ := bind_some h
    obtain ⟨y, hy, h⟩ := bind_some h
    cases h
    exact (pure_no o op t x hop hd hy).both
  case convert s t x =>
    obtain ⟨d, hd, h⟩ := bind_some h
    obtain ⟨y, hy, h⟩ := bind_some h
    obtain ⟨us, hus, h⟩ := bind_some h
    obtain ⟨ut, hut, h⟩ := bind_some h
    split at h
    · cases h; exact (pure_cvi o s t x hop hd hy hus hut).both
    · cases h; exact (pure_cvs o s t x hop hd hy hus hut).both
    · obtain ⟨ue, hue, h⟩ := bind_some h
      split at h
      · split at h
        · cases h; exact (run_b2s o s t x hop hd hy hus hue hut).both rfl
        · cases h
      · cases h
    · cases h
  case makeFunc fn first captured =>
    cases fn <;> simp only at h <;> try (cases h; done)
    split at h
    · rename_i hlt
      obtain ⟨d, hd, h⟩ := bind_some h
      obtain ⟨fs, hf, h⟩ := bind_some h
      obtain ⟨cs, hc, h⟩ := bind_some h
      cases h
      exact (pure_mf o _ hlt first captured hop hd hf hc).both
    · cases h
  case makeSlice t l c =>
    obtain ⟨r, hr, h⟩ := bind_some h
    obtain ⟨e, sz, by_⟩ := r
    simp only at h
    obtain ⟨z, hz, h⟩ := bind_some h
    split at h
    · obtain ⟨d, hd, h⟩ := bind_some h
      obtain ⟨l', hl, h⟩ := bind_some h
      obtain ⟨c', hc, h⟩ := bind_some h
      cases h
      exact (run_ms o t l c hop hd hr hz hl hc).both rfl
    · cases h
  case slice t x lo hi mx =>
    split at h
    · rename_i hu
      obtain ⟨sz, hsz, h⟩ := bind_some h
      cases hsz
      obtain ⟨d, hd, h⟩ := bind_some h
      obtain ⟨x', hx, h⟩ := bind_some h
      obtain ⟨lo', hlo, h⟩ := bind_some h
      obtain ⟨hi', hhi, h⟩ := bind_some h
      obtain ⟨mx', hmx, h⟩ := bind_some h
      cases h
      exact (pure_scs o t x lo hi mx hop hd hx hlo hhi hmx hu).both
    · obtain ⟨r, hr, h⟩ := bind_some h
      obtain ⟨e, sz', by_⟩ := r
      simp only at h
      obtain ⟨sz, hsz, h⟩ := bind_some h
      cases hsz
      obtain ⟨d, hd, h⟩ := bind_some h
      obtain ⟨x', hx, h⟩ := bind_some h
      obtain ⟨lo', hlo, h⟩ := bind_some h
      obtain ⟨hi', hhi, h⟩ := bind_some h
      obtain ⟨mx', hmx, h⟩ := bind_some h
      cases h
      exact (pure_scl o t x lo hi mx hop hd hx hlo hhi hmx hr).both
  case fieldAddr t x i =>
    obtain ⟨fs, hf, h⟩ := bind_some h
    obtain ⟨f, hfi, h⟩ := bind_some h
    obtain ⟨s, hs, h⟩ := bind_some h
    split at h
    · rename_i h0
      obtain ⟨d, hd, h⟩ := bind_some h
      obtain ⟨x', hx, h⟩ := bind_some h
      cases h
      exact (pure_fa o t x i hop hd hx hf hfi hs h0).both
    · cases h
  case field t x i =>
    obtain ⟨fs, hf, h⟩ := bind_some h
    obtain ⟨f, hfi, h⟩ := bind_some h
    obtain ⟨d, hd, h⟩ := bind_some h
    obtain ⟨ag, hag, h⟩ := bind_some h
    obtain ⟨x', hx, h⟩ := bind_some h
    cases h
    exact (pure_fi o t x i hop hd hx hf hfi hag).both
  case indexAddr t x i =>
    obtain ⟨r, hr, h⟩ := bind_some h
    obtain ⟨e, sz, by_⟩ := r
    simp only at h
    obtain ⟨d, hd, h⟩ := bind_some h
    obtain ⟨x', hx, h⟩ := bind_some h
    obtain ⟨i', hi, h⟩ := bind_some h
    cases h
    exact (pure_ia o t x i hop hd hx hi hr).both
  case index t x i =>
    split at h
    · rename_i hu
      obtain ⟨d, hd, h⟩ := bind_some h
      obtain ⟨x', hx, h⟩ := bind_some h
      obtain ⟨i', hi, h⟩ := bind_some h
      cases h
      exact (pure_ix o t x i hop hu hd hx hi).both
    · cases h
  case extract x i =>
    obtain ⟨d, hd, h⟩ := bind_some h
    obtain ⟨x', hx, h⟩ := bind_some h
    cases h
    exact (pure_ex o x i hop hd hx).both
  case call c =>
    cases hcal : c.callee with
    | value f =>
      rw [hcal] at h
      simp only at h
      obtain ⟨g, hg, h⟩ := bind_some h
      obtain ⟨asq, has, h⟩ := bind_some h
      obtain ⟨b1, b2⟩ := callArgs_ok (ow := ow) (f := f) has
      generalize callArgs ow f asq = bs at h b1 b2
      split at h
      · rename_i hc
        cases hdd : o.dst with
        | some d =>
          rw [hdd] at h
          simp only at h
          split at h
          · rename_i hlt
            cases h
            have := run_ca (P := P) (G := G) (nt := nt) o c f hop hcal (fun d' hd' => by rw [hdd] at hd'; cases hd'; exact hlt) hg b1 b2 hc
            rw [hdd] at this
            exact ⟨fun hp => by simp [Ao.pure] at hp, this⟩
          · cases h
        | none =>
          rw [hdd] at h
          cases h
          have := run_ca (P := P) (G := G) (nt := nt) o c f hop hcal (fun d' hd' => by rw [hdd] at hd'; cases hd') hg b1 b2 hc
          rw [hdd] at this
          exact ⟨fun hp => by simp [Ao.pure] at hp, this⟩
      · cases h
    | invoke r m => rw [hcal] at h; simp at h
    | builtin b =>
      rw [hcal] at h
      cases b <;> simp only at h <;> try (cases h; done)
      case append =>
        obtain ⟨d, hd, h⟩ := bind_some h
        obtain ⟨⟨s, x⟩, hp, h⟩ := bind_some h
        simp only at h
        obtain ⟨⟨ts, tx⟩, hq, h⟩ := bind_some h
        simp only at h
        obtain ⟨⟨e, sz, by_⟩, hr, h⟩ := bind_some h
        simp only at h
        obtain ⟨u, hu, h⟩ := bind_some h
        have ha := arr_of (pair2_some hp)
        have hat := arr_of (pair2_some hq)
        split at h
        · obtain ⟨s', hs, h⟩ := bind_some h
          obtain ⟨x', hx, h⟩ := bind_some h
          cases h
          exact (run_ap o c s x ts tx hop hcal ha hat hd hr (.inl ⟨_, hu⟩) hs hx).both rfl
        · split at h
          · obtain ⟨s', hs, h⟩ := bind_some h
            obtain ⟨x', hx, h⟩ := bind_some h
            cases h
            exact (run_ap o c s x ts tx hop hcal ha hat hd hr (.inr hu) hs hx).both rfl
          · cases h
        · cases h
      case len =>
        obtain ⟨d, hd, h⟩ := bind_some h
        obtain ⟨x, hp, h⟩ := bind_some h
        obtain ⟨t, hq, h⟩ := bind_some h
        have ha := arr_of (lone1_some hp)
        have hat := arr_of (lone1_some hq)
        obtain ⟨u, hu, h⟩ := bind_some h
        split at h
        · obtain ⟨x', hx, h⟩ := bind_some h
          cases h
          exact (pure_ln o c x t hop hcal ha hat (isS := false) hd hx (by simp only [Bool.false_eq_true, if_false]; exact ⟨_, hu⟩)).both
        · obtain ⟨x', hx, h⟩ := bind_some h
          cases h
          exact (pure_ln o c x t hop hcal ha hat (isS := true) hd hx (by simp only [if_true]; exact hu)).both
        · cases h
      case max =>
        obtain ⟨⟨x, y⟩, hxy, h⟩ := bind_some h
        simp only at h
        obtain ⟨d, hd, h⟩ := bind_some h
        obtain ⟨x', hx, h⟩ := bind_some h
        obtain ⟨y', hy, h⟩ := bind_some h
        cases h
        exact (pure_mm o c x y true hop (by simpa using hcal) (arr_of (pair2_some hxy)) hd hx hy).both
      case min =>
        obtain ⟨⟨x, y⟩, hxy, h⟩ := bind_some h
        simp only at h
        obtain ⟨d, hd, h⟩ := bind_some h
        obtain ⟨x', hx, h⟩ := bind_some h
        obtain ⟨y', hy, h⟩ := bind_some h
        cases h
        exact (pure_mm o c x y false hop (by simpa using hcal) (arr_of (pair2_some hxy)) hd hx hy).both

theorem cOp_snd (ow : Ow) (ops : Array Oper) (o : Oper) (ao : Ao) (h : cOp P ow nt ops o = some ao) : Both P G nt o ao := by
  unfold cOp at h
  split at h
  · rename_i a ha
    cases h
    exact cOp0_snd ow ops o _ ha
  · cases h
    exact ⟨fun h => by simp [Ao.pure] at h, fun K ρ σ a hn g w own F _ _ hw Q => hw.elim⟩

end Gx

/- Part Gx15. -/
/- Regions and code, sound. -/
namespace Gx
open Go hiding sizeOf

variable {P : Program} {G : Nat → Option Obj} {nt : Nat} {ow : Ow}

/-- The machine stands at a state of the abstract kind. -/
def At (nt : Nat) (F : Nat → Prop) (g0 : Gh) (w0 : World) (ds : List Deferred) (ρ : Env) (σ : St) (a : Act) (w : World) : Prop :=
  ∃ g own, Inv g w σ ρ a.tmps own F ∧ Ext g0 w0 g w ∧ Fr F g0 w0 g w ∧ a.tmps.size = nt ∧ a.defers = ds

/-- .. at one of which something holds. -/
def AtK (nt : Nat) (F : Nat → Prop) (g0 : Gh) (w0 : World) (ds : List Deferred) (K : Env → St → Prop) (a : Act) (w : World) : Prop := ∃ ρ σ, At nt F g0 w0 ds ρ σ a w ∧ K ρ σ

theorem AtK.of_lift {F : Nat → Prop} {g0 g : Gh} {w0 w : World} {ds : List Deferred} {K : Env → St → Prop} {a' : Act} {w' : World} (e : Ext g0 w0 g w) (f : Fr F g0 w0 g w) (h : Lift nt F g w ds K a' w') : AtK nt F g0 w0 ds K a' w' := by
  obtain ⟨ρ', σ', g', own', hI, hE, hF, hK, hn, hd⟩ := h
  exact ⟨ρ', σ', ⟨g', own', hI, e.trans hE, f.trans hF, hn, hd⟩, hK⟩

theorem guard_wanted {ops : Array Oper} {o : Oper} {gd : Option (Nat × Bool)} (hg : gOf ops nt o = some gd) {g : Gh} {w : World} {σ : St} {ρ : Env} {a : Act} {own : Pl → Option Nat} {F : Nat → Prop} (h : Inv g w σ ρ a.tmps own F) (hn : a.tmps.size = nt) :
    match gd with
    | none => Region.wanted o (yielded ops a.tmps) = true
    | some (d, b) => (∀ c, ρ d = .bool c → Region.wanted o (yielded ops a.tmps) = (c == b)) ∧ (ρ d = .un → Region.wanted o (yielded ops a.tmps) = false) := by
  unfold gOf at hg
  unfold Region.wanted
  cases hgd : o.guard with
  | none => rw [hgd] at hg; cases hg; rfl
  | some p =>
    obtain ⟨j, b⟩ := p
    rw [hgd] at hg
    simp only at hg
    cases hj : (ops[j]?).bind (·.dst) with
    | none => rw [hj] at hg; cases hg
    | some d =>
      rw [hj] at hg
      simp only at hg
      split at hg
      · rename_i hd
        cases hg
        have hlt : d < a.tmps.size := by rw [hn]; exact hd
        have hS := h.slot d hlt
        have hy : yielded ops a.tmps j = match a.tmps.getD d undef with
          | .bool b => some b
          | _ => none := by
          unfold yielded
          rw [hj, Option.bind_some, Array.getElem?_eq_getElem hlt, Array.getD_eq_getD_getElem?, Array.getElem?_eq_getElem hlt]
          simp only [Option.getD_some]
          cases a.tmps[d] <;> rfl
        refine ⟨fun c hc => ?_, fun hu => ?_⟩
        · rw [hc] at hS
          have : a.tmps.getD d undef = .bool c := by
            generalize a.tmps.getD d undef = v at hS
            generalize own (.s d) = q at hS
            cases hS with
            | sh hr => exact hr.bool_inv
          simp only [hy, this]
          cases c <;> cases b <;> rfl
        · rw [hu] at hS
          have : a.tmps.getD d undef = .tuple #[] := by
            generalize a.tmps.getD d undef = v at hS
            generalize own (.s d) = q at hS
            cases hS with
            | sh hr => cases hr; rfl
          simp only [hy, this]
          rfl
      · cases hg

/-- One operation of a region, behind its guard. -/
theorem gop_snd {ops : Array Oper} {i : Nat} {o : Oper} (hi : ops[i]? = some o) {gd : Option (Nat × Bool)} (hg : gOf ops nt o = some gd) {ao : Ao} (ha : cOp P ow nt ops o = some ao) (hd : ao.dst = o.dst) {K : Env → St → Prop} {ρ : Env} {σ : St} {a : Act}
    (hn : a.tmps.size = nt) {g : Gh} {w : World} {own : Pl → Option Nat} {F : Nat → Prop} (hG : GL G g w) (h : Inv g w σ ρ a.tmps own F) (hw : gwp (ARet P G) gd ao K ρ σ) (Q : Exit → Act → World → Prop) :
    wpOp P ops Q i (Lift nt F g w a.defers K) a w := by
  have hop := (cOp_snd (G := G) ow ops o ao ha).2
  have hgw := guard_wanted hg h hn
  have skip : Region.wanted o (yielded ops a.tmps) = false → K (optPut ρ ao.dst .un) σ → wpOp P ops Q i (Lift nt F g w a.defers K) a w := by
    intro hwn hK
    unfold wpOp
    simp only [hi, hwn, Bool.false_eq_true, if_false]
    rw [hd] at hK
    cases hdd : o.dst with
    | none =>
      rw [hdd] at hK
      exact ⟨_, _, g, own, h, Ext.refl g w, Fr.refl F g w, hK, hn, rfl⟩
    | some d =>
      rw [hdd] at hK
      exact ⟨_, _, g, _, h.put d .un, Ext.refl g w, Fr.refl F g w, hK, by simp [Act.put, hn], rfl⟩
  have run : Region.wanted o (yielded ops a.tmps) = true → ao.wp (ARet P G) K ρ σ → wpOp P ops Q i (Lift nt F g w a.defers K) a w := by
    intro hwn hK
    unfold wpOp
    simp only [hi, hwn, if_true]
    exact .inl (hop K ρ σ a hn g w own F hG h hK Q)
  cases gd with
  | none => exact run hgw hw
  | some p =>
    obtain ⟨d, b⟩ := p
    simp only [gwp] at hw
    split at hw
    · rename_i c hc
      have hwn := hgw.1 c hc
      split at hw
      · rename_i hcb
        exact run (by rw [hwn, hcb]; simp) hw
      · rename_i hcb
        exact skip (by rw [hwn]; simpa using hcb) hw
    · rename_i hc
      exact skip (hgw.2 hc) hw
    · exact hw.elim

theorem cOps_snd (ops : Array Oper) : ∀ (is : List Nat) (t : It), cOps P ow nt ops is = some t → ∀ (K : Env → St → Prop) (ρ : Env) (σ : St) (a : Act) (w : World) (F : Nat → Prop) (g0 : Gh) (w0 : World) (ds : List Deferred), GL G g0 w0 →
    At nt F g0 w0 ds ρ σ a w → t.wp (ARet P G) K ρ σ → ∀ Q : Exit → Act → World → Prop, (∀ a' w', AtK nt F g0 w0 ds K a' w' → Q .normal a' w') → wpOps P ops Q is a w
  | [], t, h, K, ρ, σ, a, w, F, g0, w0, ds, hG, hA, hw, Q, hQ => by
    simp only [cOps, Option.some.injEq] at h
    subst h
    exact hQ a w ⟨ρ, σ, hA, hw⟩
  | i :: is, t, h, K, ρ, σ, a, w, F, g0, w0, ds, hG, hA, hw, Q, hQ => by
    simp only [cOps] at h
    cases hi : ops[i]? with
    | none => rw [hi] at h; cases h
    | some o =>
      rw [hi] at h
      simp only at h
      split at h
      · rename_i gd ao t' h1 h2 h3
        split at h
        · rename_i hd
          cases h
          obtain ⟨g, own, hI, hE, hF, hn, hds⟩ := hA
          rw [wpOps_cons]
          have h4 := gop_snd (P := P) (G := G) (ow := ow) hi h1 h2 hd hn (hG.mono hE) hI (by simpa only [It.wp] using hw) Q
          refine wpOp_mono (fun a' w' hL => ?_) h4
          obtain ⟨ρ', σ', ⟨g', own', hI', hE', hF', hn', hds'⟩, hK'⟩ := AtK.of_lift hE hF hL
          exact cOps_snd ops is t' h3 K ρ' σ' a' w' F g0 w0 ds hG ⟨g', own', hI', hE', hF', hn', hds'.trans hds⟩ hK' Q hQ
        · cases h
      · cases h

theorem find_some' {α : Type} {p : α → Bool} {l : List α} {a : α} (h : l.find? p = some a) : a ∈ l ∧ p a = true := ⟨List.mem_of_find?_eq_some h, List.find?_some h⟩

theorem aOne_snd {ops : Array Oper} {i : Nat} {t : It} {rest : Option It} {X : Act → World → Prop} (h : aOne P ow nt ops rest i = some t) {K : Env → St → Prop} {ρ : Env} {σ : St} {a : Act} {w : World} {F : Nat → Prop} {g0 : Gh} {w0 : World} {ds : List Deferred} (hG : GL G g0 w0)
    (hA : At nt F g0 w0 ds ρ σ a w) (hw : t.wp (ARet P G) K ρ σ) (Q : Exit → Act → World → Prop)
    (hX : ∀ t', rest = some t' → ∀ ρ' σ' a' w', At nt F g0 w0 ds ρ' σ' a' w' → t'.wp (ARet P G) K ρ' σ' → X a' w') : wpOp P ops Q i X a w := by
  rw [aOne] at h
  cases hi : ops[i]? with
  | none => rw [hi] at h; cases h
  | some o =>
    rw [hi] at h
    simp only at h
    split at h
    · rename_i gd ao t' h1 h2
      split at h
      · rename_i hd
        cases h
        obtain ⟨g, own, hI, hE, hF, hn, hds⟩ := hA
        have h4 := gop_snd (P := P) (G := G) (ow := ow) hi h1 h2 hd hn (hG.mono hE) hI (by simpa only [It.wp] using hw) Q
        refine wpOp_mono (fun a' w' hL => ?_) h4
        obtain ⟨ρ', σ', ⟨g', own', hI', hE', hF', hn', hds'⟩, hK'⟩ := AtK.of_lift hE hF hL
        exact hX t' rfl ρ' σ' a' w' ⟨g', own', hI', hE', hF', hn', hds'.trans hds⟩ hK'
      · cases h
    · cases h

theorem cAny_snd (ops : Array Oper) (hsel : Region.noSelect ops = true) : ∀ (n : Nat) (listed : Array Bool) (t : It), cAny P ow nt ops n listed = some t → ∀ (K : Env → St → Prop) (ρ : Env) (σ : St) (a : Act) (w : World) (F : Nat → Prop) (g0 : Gh) (w0 : World) (ds : List Deferred), GL G g0 w0 →
    At nt F g0 w0 ds ρ σ a w → t.wp (ARet P G) K ρ σ → ∀ Q : Exit → Act → World → Prop, (∀ a' w', AtK nt F g0 w0 ds K a' w' → Q .normal a' w') → (∀ c a w, ¬ Q (.panic c) a w) → wpAny P .any ops Q n listed a w
  | 0, listed, t, h, K, ρ, σ, a, w, F, g0, w0, ds, hG, hA, hw, Q, hQ, hP => by
    rw [cAny] at h
    split at h
    · rename_i hr
      cases h
      exact ⟨by simpa using hr, hQ a w ⟨ρ, σ, hA, hw⟩⟩
    · cases h
  | n + 1, listed, t, h, K, ρ, σ, a, w, F, g0, w0, ds, hG, hA, hw, Q, hQ, hP => by
    rw [cAny] at h
    split at h
    · rename_i hr
      cases h
      exact wpAny_done (by simpa using hr) (hQ a w ⟨ρ, σ, hA, hw⟩) _
    · rename_i hr
      split at h
      · -- a pure operation first
        rename_i i hf
        obtain ⟨hmem, hp⟩ := find_some' hf
        simp only [Bool.and_eq_true] at hp
        obtain ⟨hfree, hpure⟩ := hp
        cases hi : ops[i]? with
        | none => rw [aOne, hi] at h; cases h
        | some o =>
          rw [aOne, hi] at h
          rw [aFree, hi] at hpure
          simp only at h hpure
          split at h
          · rename_i gd ao t' h1 h2 h3
            split at h
            · rename_i hd
              cases h
              rw [h2] at hpure
              simp only at hpure
              obtain ⟨g, own, hI, hE, hF, hn, hds⟩ := hA
              have hPS := (cOp_snd (G := G) ow ops o ao h2).1 hpure
              have hgw := guard_wanted h1 hI hn
              simp only [It.wp] at hw
              have next : ∀ (v : Value) (ρ' : Env), Yields P ops o v a → At nt F g0 w0 ds ρ' σ (a.put o.dst v) w → t'.wp (ARet P G) K ρ' σ → wpAny P .any ops Q (n + 1) listed a w := by
                intro v ρ' hy hA' hw'
                exact wpAny_take hi hsel hfree (by simpa using hmem) (fun c a w hq => absurd hq (hP c _ w)) hy (cAny_snd ops hsel n _ t' h3 K ρ' σ _ w F g0 w0 ds hG hA' hw' Q hQ hP)
              have skip : Region.wanted o (yielded ops a.tmps) = false → t'.wp (ARet P G) K (optPut ρ ao.dst .un) σ → wpAny P .any ops Q (n + 1) listed a w := by
                intro hwn hK
                refine next undef _ (.inr ⟨hwn, rfl⟩) ?_ hK
                rw [hd]
                cases hdd : o.dst with
                | none => exact ⟨g, own, hI, hE, hF, hn, hds⟩
                | some d => exact ⟨g, _, hI.put d .un, hE, hF, by simp [Act.put, hn], hds⟩
              have run : Region.wanted o (yielded ops a.tmps) = true → ao.wp (ARet P G) (t'.wp (ARet P G) K) ρ σ → wpAny P .any ops Q (n + 1) listed a w := by
                intro hwn hK
                obtain ⟨d, v, x, e1, e2, _, e3, e4, e5⟩ := hPS (ARet P G) _ ρ σ a hn g w own F hI hK
                refine next v _ (.inl ⟨hwn, e3⟩) ?_ e4
                rw [e1]
                exact ⟨g, _, hI.put d e5, hE, hF, by simp [Act.put, hn], hds⟩
              cases gd with
              | none => exact run hgw hw
              | some p =>
                obtain ⟨d, b⟩ := p
                simp only [gwp] at hw
                split at hw
                · rename_i c hc
                  have hwn := hgw.1 c hc
                  split at hw
                  · rename_i hcb
                    exact run (by rw [hwn, hcb]; simp) hw
                  · rename_i hcb
                    exact skip (by rw [hwn]; simpa using hcb) hw
                · rename_i hc
                  exact skip (hgw.2 hc) hw
                · exact hw.elim
            · cases h
          · cases h
      · -- any of those that are ready
        have one : ∀ i t', aOne P ow nt ops (cAny P ow nt ops n (listed.setIfInBounds i true)) i = some t' → t'.wp (ARet P G) K ρ σ → wpOp P ops Q i (wpAny P .any ops Q n (listed.setIfInBounds i true)) a w :=
          fun i t' h' hw' => aOne_snd h' hG hA hw' Q fun t'' h'' ρ' σ' a' w' hA' hw'' => cAny_snd ops hsel n _ t'' h'' K ρ' σ' a' w' F g0 w0 ds hG hA' hw'' Q hQ hP
        have hne : Region.ready .any ops listed ≠ [] := by simpa using hr
        split at h
        · rename_i i hrs
          refine wpAny_all hrs (by simp) fun j hj => ?_
          obtain rfl : j = i := by simpa using hj
          exact one j t h hw
        · rw [Option.map_eq_some_iff] at h
          obtain ⟨ts, hts, rfl⟩ := h
          refine wpAny_all rfl hne ?_
          simp only [It.wp] at hw
          have many : ∀ (is : List Nat) (ts : List It), aMany (fun i => aOne P ow nt ops (cAny P ow nt ops n (listed.setIfInBounds i true)) i) is = some ts → wpAll (ARet P G) ts K ρ σ → ∀ i ∈ is, wpOp P ops Q i (wpAny P .any ops Q n (listed.setIfInBounds i true)) a w := by
            intro is
            induction is with
            | nil => intro ts _ _ i hi; cases hi
            | cons j is ih =>
              intro ts h' hw' i hi
              rw [aMany] at h'
              split at h'
              · rename_i t1 ts1 e1 e2
                cases h'
                simp only [wpAll] at hw'
                rcases List.mem_cons.1 hi with rfl | hi
                · exact one i t1 e1 hw'.1
                · exact ih ts1 e2 hw'.2 i hi
              · cases h'
          exact many _ ts hts hw

end Gx

/- Part Gx16. -/
/- Code, loops, functions. -/
namespace Gx
open Go hiding sizeOf

variable {P : Program} {G : Nat → Option Obj} {nt : Nat} {ow : Ow}

def PostQ (nt : Nat) (F : Nat → Prop) (g0 : Gh) (w0 : World) (ds : List Deferred) (Q : Post) : Exit → Act → World → Prop
  | .normal, a, w => AtK nt F g0 w0 ds (Q .nx) a w
  | .exit id, a, w => AtK nt F g0 w0 ds (Q (.ex id)) a w
  | .ret, a, w => AtK nt F g0 w0 ds (Q .rt) a w
  | _, _, _ => False

/-- What a loop does: whatever the machine's loop is of which it was made. -/
def Loops (P : Program) (G : Nat → Option Obj) (ow : Ow) (nt : Nat) (b : Ic) (Q : Post) (ρ : Env) (σ : St) : Prop :=
  ∀ c, cCode P ow nt c = some b → ∀ (F : Nat → Prop) (g0 : Gh) (w0 : World) (ds : List Deferred) (a : Act) (w : World), GL G g0 w0 → At nt F g0 w0 ds ρ σ a w → (Code.loop c).wp P (PostQ nt F g0 w0 ds Q) a w

theorem cCode_snd : ∀ (c : Code) (ic : Ic), cCode P ow nt c = some ic → ∀ (Q : Post) (ρ : Env) (σ : St), ic.wp (ARet P G) (Loops P G ow nt) Q ρ σ → ∀ (F : Nat → Prop) (g0 : Gh) (w0 : World) (ds : List Deferred) (a : Act) (w : World), GL G g0 w0 →
    At nt F g0 w0 ds ρ σ a w → c.wp P (PostQ nt F g0 w0 ds Q) a w
  | .skip, ic, h, Q, ρ, σ, hw, F, g0, w0, ds, a, w, hG, hA => by
    simp only [cCode, Option.some.injEq] at h; subst h
    exact wp_skip ⟨ρ, σ, hA, hw⟩
  | .region id ops false, ic, h, Q, ρ, σ, hw, F, g0, w0, ds, a, w, hG, hA => by
    simp only [cCode] at h
    split at h
    · rename_i t ht
      cases h
      exact wp_region (cOps_snd ops _ t ht (Q .nx) ρ σ a w F g0 w0 ds hG hA hw _ fun a' w' h => h)
    · cases h; simp only [Ic.wp] at hw
  | .region id ops true, ic, h, Q, ρ, σ, hw, F, g0, w0, ds, a, w, hG, hA => by
    simp only [cCode] at h
    split at h
    · rename_i hc
      simp only [Bool.and_eq_true] at hc
      split at h
      · rename_i t ht
        cases h
        obtain ⟨g, own, hI, hE, hF, hn, hds⟩ := hA
        exact wp_region_any hc.1 (cAny_snd ops hc.2 _ _ t ht (Q .nx) ρ σ a w.drew F g0 w0 ds hG ⟨g, own, hI.drew, hE.trans Ext.drew, hF.trans fun _ _ => ⟨rfl, rfl⟩, hn, hds⟩ hw _ (fun a' w' h => h) fun c a w h => h)
      · cases h; simp only [Ic.wp] at hw
    · cases h; simp only [Ic.wp] at hw
  | .seq x y, ic, h, Q, ρ, σ, hw, F, g0, w0, ds, a, w, hG, hA => by
    simp only [cCode] at h
    split at h
    · rename_i x' y' h1 h2
      cases h
      simp only [Ic.wp] at hw
      refine wp_seq (wp_mono (cCode_snd x x' h1 _ ρ σ hw F g0 w0 ds a w hG hA) fun e a' w' hq => ?_)
      cases e with
      | normal =>
        obtain ⟨ρ', σ', hA', hK⟩ := hq
        exact cCode_snd y y' h2 Q ρ' σ' hK F g0 w0 ds a' w' hG hA'
      | exit id => exact hq
      | ret => exact hq
      | goto l => exact hq
      | panic c => exact hq
      | outgrown => exact hq
    · cases h
  | .cond c x y, ic, h, Q, ρ, σ, hw, F, g0, w0, ds, a, w, hG, hA => by
    simp only [cCode] at h
    split at h
    · rename_i c' x' y' h0 h1 h2
      cases h
      simp only [Ic.wp] at hw
      split at hw
      · rename_i t ht
        have hA' := hA
        obtain ⟨g, own, hI, hE, hF, hn, hds⟩ := hA
        have hr := od_plain hI hn h0 (by rw [ht]; simp)
        rw [ht] at hr
        exact wp_cond_split hr.bool_inv (fun e => cCode_snd x x' h1 Q ρ σ (hw.1 e) F g0 w0 ds a w hG hA') fun e => cCode_snd y y' h2 Q ρ σ (hw.2 e) F g0 w0 ds a w hG hA'
      · exact hw.elim
    · cases h; simp only [Ic.wp] at hw
  | .block id b, ic, h, Q, ρ, σ, hw, F, g0, w0, ds, a, w, hG, hA => by
    simp only [cCode, Option.map_eq_some_iff] at h
    obtain ⟨b', h1, rfl⟩ := h
    simp only [Ic.wp] at hw
    refine wp_block (wp_mono (cCode_snd b b' h1 _ ρ σ hw F g0 w0 ds a w hG hA) fun e a' w' hq => ?_)
    cases e with
    | exit i =>
      simp only [PostQ, Post.blk, Exit.inBlock] at hq ⊢
      split
      · rename_i hi; simp only [hi, if_true] at hq; exact hq
      · rename_i hi; simp only [hi, if_false] at hq; exact hq
    | normal => exact hq
    | ret => exact hq
    | goto l => exact hq
    | panic c => exact hq
    | outgrown => exact hq
  | .loop b, ic, h, Q, ρ, σ, hw, F, g0, w0, ds, a, w, hG, hA => by
    simp only [cCode, Option.map_eq_some_iff] at h
    obtain ⟨b', h1, rfl⟩ := h
    exact hw b h1 F g0 w0 ds a w hG hA
  | .exit id, ic, h, Q, ρ, σ, hw, F, g0, w0, ds, a, w, hG, hA => by
    simp only [cCode, Option.some.injEq] at h; subst h
    exact wp_exit ⟨ρ, σ, hA, hw⟩
  | .ret, ic, h, Q, ρ, σ, hw, F, g0, w0, ds, a, w, hG, hA => by
    simp only [cCode, Option.some.injEq] at h; subst h
    exact wp_ret ⟨ρ, σ, hA, hw⟩
  | .rangeFunc .., ic, h, _, _, _, hw, _, _, _, _, _, _, _, _ => by
    simp only [cCode, Option.some.injEq] at h; subst h; simp only [Ic.wp] at hw
  | .scope _, ic, h, _, _, _, hw, _, _, _, _, _, _, _, _ => by
    simp only [cCode, Option.some.injEq] at h; subst h; simp only [Ic.wp] at hw
  | .label _, ic, h, _, _, _, hw, _, _, _, _, _, _, _, _ => by
    simp only [cCode, Option.some.injEq] at h; subst h; simp only [Ic.wp] at hw
  | .goto _, ic, h, _, _, _, hw, _, _, _, _, _, _, _, _ => by
    simp only [cCode, Option.some.injEq] at h; subst h; simp only [Ic.wp] at hw
  | .refuse _, ic, h, _, _, _, hw, _, _, _, _, _, _, _, _ => by
    simp only [cCode, Option.some.injEq] at h; subst h; simp only [Ic.wp] at hw

/-- A loop, by a number that falls. -/
theorem wp_loop_down {c : Code} {Q : Exit → Act → World → Prop} (I : Nat → Act → World → Prop) (round : ∀ n a w, I n a w → c.wp P (Exit.then (fun a' w' => ∃ m, m < n ∧ I m a' w') Q) a w) : ∀ n a w, I n a w → (Code.loop c).wp P Q a w := by
  intro n a w h0 b k cs
  have key : ∀ n a w, I n a w → ∃ e a' w', Q e a' w' ∧ Arrives P (lone (b.at a (.code c :: .inLoop c :: k)) cs w) b k cs e a' w' := by
    intro n
    induction n using Nat.strongRecOn with
    | _ n ih =>
      intro a w hI
      obtain ⟨e, a₁, w₁, hq, harr⟩ := round n a w hI b (.inLoop c :: k) cs
      cases e with
      | normal =>
        obtain ⟨m, hlt, hI₁⟩ := hq
        obtain ⟨e₂, a₂, w₂, hq₂, harr₂⟩ := ih m hlt a₁ w₁ hI₁
        exact ⟨e₂, a₂, w₂, hq₂, .of_steps (Steps.trans harr (.one step_inLoop)) harr₂⟩
      | exit id => exact ⟨_, a₁, w₁, hq, .pass (x := .inLoop c) rfl (fun _ _ => .inl (by simp)) harr⟩
      | goto l => exact ⟨_, a₁, w₁, hq, .pass (x := .inLoop c) rfl (fun _ _ => .inl (by simp)) harr⟩
      | ret => exact ⟨_, a₁, w₁, hq, .pass (x := .inLoop c) rfl (fun _ _ => .inl (by simp)) harr⟩
      | panic ch => exact ⟨_, a₁, w₁, hq, .pass (x := .inLoop c) rfl (fun _ _ => .inl (by simp)) harr⟩
      | outgrown => exact ⟨_, a₁, w₁, hq, .pass (x := .inLoop c) rfl (fun _ _ => .inl (by simp)) harr⟩
  obtain ⟨e, a', w', hq, harr⟩ := key n a w h0
  exact ⟨e, a', w', hq, .of_steps (.one step_loop) harr⟩

/-- THE LOOP: what holds ahead of each round, with a number that falls. -/
theorem loop_rule {b : Ic} {Q : Post} (I : Nat → Env → St → Prop) (round : ∀ n ρ σ, I n ρ σ → b.wp (ARet P G) (Loops P G ow nt) (Post.then (fun ρ' σ' => ∃ m, m < n ∧ I m ρ' σ') Q) ρ σ) {n : Nat} {ρ : Env} {σ : St} (h : I n ρ σ) :
    Loops P G ow nt b Q ρ σ := by
  intro c hc F g0 w0 ds a w hG hA
  refine wp_loop_down (fun n a w => ∃ ρ σ, At nt F g0 w0 ds ρ σ a w ∧ I n ρ σ) (fun n a w hI => ?_) n a w ⟨ρ, σ, hA, h⟩
  obtain ⟨ρ, σ, hA, hI⟩ := hI
  refine wp_mono (cCode_snd c b hc _ ρ σ (round n ρ σ hI) F g0 w0 ds a w hG hA) fun e a' w' hq => ?_
  cases e with
  | normal =>
    obtain ⟨ρ', σ', hA', m, hm, hI'⟩ := hq
    exact ⟨m, hm, ρ', σ', hA', hI'⟩
  | exit id => exact hq
  | ret => exact hq
  | goto l => exact hq
  | panic c => exact hq
  | outgrown => exact hq

end Gx

/- Part Gx17. -/
/- What a function leaves, and its contract out of its body. -/
namespace Gx
open Go hiding sizeOf

variable {P : Program} {G : Nat → Option Obj} {nt : Nat} {ow : Ow}

mutual
/-- Does a value lead to none but the first boxes? -/
def clean (n : Nat) : Pv → Bool
  | .agg cs => cleanL n cs
  | .tup vs => cleanL n vs
  | .sl _ xs => cleanL n xs
  | .ptr b _ => b < n
  | .rptr cs _ => cleanL n cs
  | .bsl b _ _ => b < n
  | .clo _ f c => cleanL n f && cleanL n c
  | .int _ _ | .str _ | .bool _ | .nilp | .nilf | .nili | .un => true
def cleanL (n : Nat) : List Pv → Bool
  | [] => true
  | x :: xs => clean n x && cleanL n xs
end

theorem cleanL_iff {n : Nat} : ∀ {xs : List Pv}, cleanL n xs = true ↔ ∀ x ∈ xs, clean n x = true
  | [] => by simp [cleanL]
  | x :: xs => by simp [cleanL, cleanL_iff]

theorem flat_clean {n : Nat} {xs : List Pv} (h : cleanL n xs = true) : ∀ y ∈ xs.flatMap Pv.cells, clean n y = true := by
  intro y hy
  obtain ⟨x, hx, hc⟩ := List.mem_flatMap.1 hy
  have := cleanL_iff.1 h x hx
  cases x <;> simp only [Pv.cells, List.mem_singleton] at hc <;> first
    | (subst hc; exact this)
    | (simp only [clean] at this; exact cleanL_iff.1 this y hc)

theorem R.restrict {g : Gh} {w : World} {x : Pv} {v : Value} {n : Nat} (h : R g w x v) : clean n x = true → R ⟨g.z, g.bl, n⟩ w x v := by
  induction h with
  | int k n => intro _; exact .int k n
  | str l s h hl => intro _; exact .str l s h hl
  | bool b => intro _; exact .bool b
  | nilp => intro _; exact .nilp
  | nilf => intro _; exact .nilf
  | nili => intro _; exact .nili
  | un => intro _; exact .un
  | agg cs vs hl h ih =>
    intro hc
    simp only [clean] at hc
    exact .agg cs vs hl fun i x v hx hv => ih i x v hx hv (cleanL_iff.1 hc x (List.mem_of_getElem? hx))
  | tup cs vs hl h ih =>
    intro hc
    simp only [clean] at hc
    exact .tup cs vs hl fun i x v hx hv => ih i x v hx hv (cleanL_iff.1 hc x (List.mem_of_getElem? hx))
  | slnil own => intro _; exact .slnil own
  | sl xs a c k vs hsp hc hc2 hk hx hcell h ih =>
    intro hcl
    simp only [clean] at hcl
    exact .sl xs a c k vs hsp hc hc2 hk hx hcell fun j x hx => ih j x hx (flat_clean hcl x (List.mem_of_getElem? hx))
  | ptr b off h => intro hc; simp only [clean, decide_eq_true_eq] at hc; exact .ptr (g := ⟨g.z, g.bl, n⟩) b off hc
  | rptr cs off b o vs hcell h ih =>
    intro hc
    simp only [clean] at hc
    exact .rptr cs off b o vs hcell fun j x hx => ih j x hx (cleanL_iff.1 hc x (List.mem_of_getElem? hx))
  | bsl b off m c h hc hc2 => intro hcl; simp only [clean, decide_eq_true_eq] at hcl; exact .bsl (g := ⟨g.z, g.bl, n⟩) b off m c hcl hc hc2
  | yld l => intro _; exact .yld l
  | clo f fs cs us vs hf hc h1 h2 hlt ih1 ih2 =>
    intro hcl
    simp only [clean, Bool.and_eq_true] at hcl
    exact .clo f fs cs us vs hf hc (fun i x v a b => ih1 i x v a b (cleanL_iff.1 hcl.1 x (List.mem_of_getElem? a))) (fun i x v a b => ih2 i x v a b (cleanL_iff.1 hcl.2 x (List.mem_of_getElem? a))) hlt

theorem list_clean {n : Nat} {cs : List Pv} (h : ∀ (i : Nat) x, cs[i]? = some x → clean n x = true) : cleanL n cs = true :=
  cleanL_iff.2 fun x hx => by obtain ⟨i, hi⟩ := List.getElem?_of_mem hx; exact h i x hi

theorem R.isClean {g : Gh} {w : World} {x : Pv} {v : Value} (h : R g w x v) : clean g.n x = true := by
  induction h with
  | int k n => rfl
  | str l s h hl => rfl
  | bool b => rfl
  | nilp => rfl
  | nilf => rfl
  | nili => rfl
  | un => rfl
  | agg cs vs hl h ih =>
    simp only [clean]
    exact list_clean fun i x hx => by
      have : i < vs.size := by have := (List.getElem?_eq_some_iff.1 hx).1; omega
      exact ih i x vs[i] hx (by simp [this])
  | tup cs vs hl h ih =>
    simp only [clean]
    exact list_clean fun i x hx => by
      have : i < vs.size := by have := (List.getElem?_eq_some_iff.1 hx).1; omega
      exact ih i x vs[i] hx (by simp [this])
  | slnil own => rfl
  | sl xs a c k vs hsp hc hc2 hk hx hcell h ih =>
    simp only [clean]
    refine cleanL_iff.2 fun x hxm => ?_
    have key : ∀ y ∈ x.cells, clean g.n y = true := by
      intro y hy
      have : y ∈ xs.flatMap Pv.cells := List.mem_flatMap.2 ⟨x, hxm, hy⟩
      obtain ⟨j, hj⟩ := List.getElem?_of_mem this
      exact ih j y hj
    cases x with
    | agg cs => simp only [clean]; exact cleanL_iff.2 key
    | _ => exact key _ (by simp [Pv.cells])
  | ptr b off h => simpa [clean] using h
  | rptr cs off b o vs hcell h ih => simp only [clean]; exact list_clean fun i x hx => ih i x hx
  | bsl b off m c h hc hc2 => simpa [clean] using h
  | yld l => rfl
  | clo f fs cs us vs hf hc h1 h2 hlt ih1 ih2 =>
    simp only [clean, Bool.and_eq_true]
    exact ⟨list_clean fun i x hx => by
      have : i < us.size := by have := (List.getElem?_eq_some_iff.1 hx).1; omega
      exact ih1 i x us[i] hx (by simp [this]), list_clean fun i x hx => by
      have : i < vs.size := by have := (List.getElem?_eq_some_iff.1 hx).1; omega
      exact ih2 i x vs[i] hx (by simp [this])⟩

theorem OwnRow.isClean {g : Gh} {w : World} {xs : List Pv} {v : Value} {b : Nat} (h : OwnRow g w xs v b) : cleanL g.n xs = true := by
  have := h.shr.isClean
  simpa only [clean] using this

theorem OwnRow.restrict {g : Gh} {w : World} {xs : List Pv} {v : Value} {b n : Nat} (h : OwnRow g w xs v b) (hc : cleanL n xs = true) : OwnRow ⟨g.z, g.bl, n⟩ w xs v b := by
  obtain ⟨hne, c, k, cs, el, rfl, h1, h2, hk, hcs, hcc, hc2, hx, hr⟩ := h
  exact ⟨hne, c, k, cs, el, rfl, h1, h2, hk, hcs, hcc, hc2, hx, fun j x hj => by
    obtain ⟨v, hv, hrr⟩ := hr j x hj
    exact ⟨v, hv, hrr.restrict (flat_clean hc x (List.mem_of_getElem? hj))⟩⟩

theorem S.restrict {g : Gh} {w : World} {x : Pv} {v : Value} {o : Option Nat} {n : Nat} (h : S g w x v o) (hc : clean n x = true) : S ⟨g.z, g.bl, n⟩ w x v o := by
  cases h with
  | sh h => exact .sh (h.restrict hc)
  | own h => exact .own (h.restrict (by simpa only [clean] using hc))

theorem S.isClean {g : Gh} {w : World} {x : Pv} {v : Value} {o : Option Nat} (h : S g w x v o) : clean g.n x = true := by
  cases h with
  | sh h => exact h.isClean
  | own h => simp only [clean]; exact h.isClean

theorem clean_mono {n m : Nat} (hnm : n ≤ m) : ∀ {x : Pv}, clean n x = true → clean m x = true := by
  intro x
  induction x using Pv.rec (motive_2 := fun xs => cleanL n xs = true → cleanL m xs = true) with
  | int | str | bool | nilp | nilf | nili | un => intro _; rfl
  | agg cs ih => intro h; simp only [clean] at h ⊢; exact ih h
  | tup cs ih => intro h; simp only [clean] at h ⊢; exact ih h
  | sl o xs ih => intro h; simp only [clean] at h ⊢; exact ih h
  | ptr b off => intro h; simp only [clean, decide_eq_true_eq] at h ⊢; omega
  | rptr cs off ih => intro h; simp only [clean] at h ⊢; exact ih h
  | bsl b off n => intro h; simp only [clean, decide_eq_true_eq] at h ⊢; omega
  | clo f fs cs ih1 ih2 => intro h; simp only [clean, Bool.and_eq_true] at h ⊢; exact ⟨ih1 h.1, ih2 h.2⟩
  | nil => rfl
  | cons x xs ih1 ih2 => rename_i h; simp only [cleanL, Bool.and_eq_true] at h ⊢; exact ⟨ih1 h.1, ih2 h.2⟩

/-! ### What a function gives -/

def retv (ρ : Env) (σ : St) : Rv → Option Pv
  | .t n => some ((ρ n).arg σ)
  | .cell n ag => match ρ n with
    | .ptr b off => offs (σ.m b) off ag
    | _ => none

def retvs (ρ : Env) (σ : St) : List Rv → Option (List Pv)
  | [] => some []
  | r :: rs => match retv ρ σ r, retvs ρ σ rs with
    | some v, some vs => some (v :: vs)
    | _, _ => none

def resArgs (ρ : Env) : List Rv → List Pv
  | [] => []
  | .t n :: rs => ρ n :: resArgs ρ rs
  | .cell .. :: rs => resArgs ρ rs

def oksArg (σ : St) : List Pv → Prop
  | [] => True
  | x :: xs => argOk σ x ∧ oksArg σ xs

/-- What boxes there are behind a call: asq many asq before, or all. -/
def Keep (σ0 σ1 σ' : St) (r : Pv) : Prop :=
  σ'.n ≤ σ1.n ∧ (∀ b, b < σ'.n → σ'.m b = σ1.m b ∧ σ'.ro b = σ1.ro b ∧ σ'.t b = σ1.t b) ∧
    (σ'.n = σ1.n ∨ (σ0.n ≤ σ'.n ∧ clean σ'.n r = true ∧ ∀ b, b < σ'.n → (b < σ0.n ∧ σ1.m b = σ0.m b) ∨ cleanL σ'.n (σ1.m b) = true))

def one? : List Pv → Pv
  | [v] => v
  | vs => .tup vs

def Fin (res : List Rv) (σ0 : St) (r : Pv) (σ' : St) (ρ : Env) (σ1 : St) : Prop :=
  (∃ n xs, res = [.t n] ∧ ρ n = .sl true xs ∧ r = .sl true xs ∧ Keep σ0 σ1 σ' r) ∨
  (oksArg σ1 (resArgs ρ res) ∧ ∃ vs, retvs ρ σ1 res = some vs ∧ r = one? vs ∧ Keep σ0 (σ1.shutbs (resArgs ρ res)) σ' r)

theorem oksArg_at {σ : St} : ∀ {xs : List Pv}, oksArg σ xs → ∀ x ∈ xs, argOk σ x
  | [], _, x, h => by simp at h
  | y :: ys, ho, x, h => by
    rcases List.mem_cons.1 h with rfl | h
    · exact ho.1
    · exact oksArg_at ho.2 x h

def resOne (tm : Array Value) : ResultVar → Sem Value
  | .tmp t => pure (tm.getD t undef)
  | .cell a t => do loadVar t (← asAddr (tm.getD a undef))

theorem results_eq (fn : Func) (tm : Array Value) : results fn tm = (do
    let vs ← fn.results.mapM (resOne tm)
    pure (if h : vs.size = 1 then vs[0] else .tuple vs)) := by
  unfold results
  congr 1

/-- The values of the results. -/
theorem res_run {g1 g2 : Gh} {w1 : World} {σ1 : St} {ρ : Env} {tm : Array Value} {own : Pl → Option Nat} {F : Nat → Prop} (hI : Inv g1 w1 σ1 ρ tm own F) (hn : tm.size = nt) (e : Ext g1 w1 g2 w1) (hbl : g2.bl = g1.bl) :
    ∀ (rvs : List ResultVar) (res : List Rv) (xs : List Pv), cRes P nt rvs = some res → retvs ρ σ1 res = some xs → (∀ x ∈ resArgs ρ res, argOk σ1 x ∧ ∀ b off n, x = .bsl b off n → g2.z (g1.bl b) = none) →
      ∃ us : List Value, (rvs.mapM (resOne tm)).run P w1 = .ok us w1 ∧ us.length = xs.length ∧ ∀ (i : Nat) x v, xs[i]? = some x → us[i]? = some v → R g2 w1 x v
  | [], res, xs, h, hx, _ => by
    simp only [cRes, Option.some.injEq] at h
    subst h
    simp only [retvs, Option.some.injEq] at hx
    subst hx
    exact ⟨[], by simp, rfl, fun i x v h => by simp at h⟩
  | .tmp t :: rvs, res, xs, h, hx, hok => by
    simp only [cRes] at h
    split at h
    · rename_i hlt
      rw [Option.map_eq_some_iff] at h
      obtain ⟨res', h', rfl⟩ := h
      simp only [retvs, retv] at hx
      split at hx
      · rename_i x1 xs1 e1 e2
        cases hx
        cases e1
        simp only [resArgs] at hok
        obtain ⟨us, h1, h2, h3⟩ := res_run hI hn e hbl rvs res' xs1 h' e2 (fun x hx => hok x (List.mem_cons_of_mem _ hx))
        refine ⟨tm.getD t undef :: us, by simp only [List.mapM_cons, resOne, Sem.run_bind, Sem.run_pure, Result.andThen_ok, h1], by simp [h2], fun i x v hxi hvi => ?_⟩
        cases i with
        | zero =>
          simp only [List.getElem?_cons_zero, Option.some.injEq] at hxi hvi
          subst hxi
          subst hvi
          obtain ⟨ho, hz⟩ := hok (ρ t) (by simp)
          exact arg_R hI e hbl (hI.slot t (by rw [hn]; exact hlt)) ho hz
        | succ i => exact h3 i x v (by simpa using hxi) (by simpa using hvi)
      · cases hx
    · cases h
  | .cell a t :: rvs, res, xs, h, hx, hok => by
    simp only [cRes] at h
    split at h
    · rename_i ag l hag hl
      split at h
      · rename_i hlt
        cases h
        simp only [retvs] at hx
        split at hx
        · rename_i x1 xs1 e1 e2
          cases hx
          simp only [resArgs] at hok
          obtain ⟨us, h1, h2, h3⟩ := res_run hI hn e hbl rvs l xs1 hl e2 hok
          simp only [retv] at e1
          split at e1
          · rename_i b off hp
            have hS := hI.slot a (by rw [hn]; exact hlt)
            rw [hp] at hS
            generalize hv : tm.getD a undef = v at hS
            generalize own (.s a) = q at hS
            cases hS with
            | sh hr =>
              cases hr with
              | ptr _ _ hb =>
                obtain ⟨vs, el, b1, b2, b3, b4⟩ := hI.box b (hI.gn ▸ hb)
                obtain ⟨u, hu1, hu2⟩ := load_run (P := P) (g := g1) (w := w1) hag (cs := σ1.m b) (b := g1.bl b) (o := 0) (off := off) (vs := fun j => vs.getD j undef) (fun j hj => by
                  have hlt : j < vs.size := by omega
                  simp [World.cell?, b1, hlt]) (fun j x hj => by
                  obtain ⟨v, hv, hS⟩ := b4 j x hj
                  simp only [Array.getD_eq_getD_getElem?, hv, Option.getD_some]
                  exact hS.shr) e1
                simp only [Nat.zero_add] at hu1
                refine ⟨u :: us, ?_, by simp [h2], fun i x v hxi hvi => ?_⟩
                · have hone : (resOne tm (.cell a t)).run P w1 = .ok u w1 := by
                    simp only [resOne, Sem.run_bind, hv, asAddr, Sem.run_pure, Result.andThen_ok, hu1]
                  simp only [List.mapM_cons, Sem.run_bind, hone, Sem.run_pure, Result.andThen_ok, h1]
                · cases i with
                  | zero =>
                    simp only [List.getElem?_cons_zero, Option.some.injEq] at hxi hvi
                    subst hxi
                    subst hvi
                    exact hu2.mono e
                  | succ i => exact h3 i x v (by simpa using hxi) (by simpa using hvi)
          · cases e1
        · cases hx
      · cases h
    · cases h

theorem resArgs_bsl {g1 : Gh} {w1 : World} {σ1 : St} {ρ : Env} {tm : Array Value} {own : Pl → Option Nat} {F : Nat → Prop} (hI : Inv g1 w1 σ1 ρ tm own F) (hn : tm.size = nt) :
    ∀ (rvs : List ResultVar) (res : List Rv), cRes P nt rvs = some res → ∀ b off n, Pv.bsl b off n ∈ resArgs ρ res → b < σ1.n
  | [], res, h, b, off, n, hm => by simp only [cRes, Option.some.injEq] at h; subst h; simp [resArgs] at hm
  | .tmp t :: rvs, res, h, b, off, n, hm => by
    simp only [cRes] at h
    split at h
    · rename_i hlt
      rw [Option.map_eq_some_iff] at h
      obtain ⟨res', h', rfl⟩ := h
      simp only [resArgs] at hm
      rcases List.mem_cons.1 hm with hm | hm
      · have hS := hI.slot t (by rw [hn]; exact hlt)
        rw [← hm] at hS
        generalize tm.getD t undef = v at hS
        generalize own (.s t) = q at hS
        cases hS with
        | sh hr =>
          cases hr with
          | bsl _ _ _ _ hb => exact hI.gn ▸ hb
      · exact resArgs_bsl hI hn rvs res' h' b off n hm
    · cases h
  | .cell a t :: rvs, res, h, b, off, n, hm => by
    simp only [cRes] at h
    split at h
    · split at h
      · rename_i hl _
        cases h
        simp only [resArgs] at hm
        exact resArgs_bsl hI hn rvs _ hl b off n hm
      · cases h
    · cases h

/-- The end of a body: the caller's view. -/
theorem fin_inv {g g1 : Gh} {w w1 : World} {σ0 σ1 σ' : St} {ρ0 ρ1 : Env} {tm0 tm1 : Array Value} {own0 own1 : Pl → Option Nat} {F : Nat → Prop} {r : Pv} {v : Value} {o : Option Nat} (h0 : Inv g w σ0 ρ0 tm0 own0 F) (h1 : Inv g1 w1 σ1 ρ1 tm1 own1 F)
    (e : Ext g w g1 w1) (f : Fr F g w g1 w1) (hk : Keep σ0 σ1 σ' r) (hS : S g1 w1 r v o) (ho : ∀ b, o = some b → ∃ s, own1 (.s s) = some b) :
    ∃ g' own', Inv g' w1 σ' (fun _ => r) #[v] own' F ∧ Ext g w g' w1 ∧ Fr F g w g' w1 := by
  obtain ⟨k1, k2, k3⟩ := hk
  have hg0 : g.n = σ0.n := h0.gn
  have hg1 : g1.n = σ1.n := h1.gn
  have hle : σ0.n ≤ σ'.n := by
    rcases k3 with k3 | k3
    · have := e.nle; omega
    · exact k3.1
  have hr : clean σ'.n r = true := by
    rcases k3 with k3 | k3
    · have := hS.isClean; rw [hg1, ← k3] at this; exact this
    · exact k3.2.1
  have hb : ∀ b, b < σ'.n → cleanL σ'.n (σ1.m b) = true := by
    intro b hb
    have hall : cleanL g1.n (σ1.m b) = true := by
      obtain ⟨vs, el, b1, b2, b3, b4⟩ := h1.box b (by omega)
      exact list_clean fun i x hx => by obtain ⟨v, _, hSx⟩ := b4 i x hx; exact hSx.isClean
    rcases k3 with k3 | k3
    · rw [k3, ← hg1]; exact hall
    · rcases k3.2.2 b hb with ⟨k4, k5⟩ | k4
      · rw [k5]
        obtain ⟨vs, el, b1, b2, b3, b4⟩ := h0.box b k4
        exact list_clean fun i x hx => by obtain ⟨v, _, hSx⟩ := b4 i x hx; exact clean_mono hle (hg0 ▸ hSx.isClean)
      · exact k4
  let own' : Pl → Option Nat := fun p => match p with
    | .s t => if t = 0 then o else none
    | .c b j => own1 (.c b j)
    | .b b => own1 (.b b)
  have key : ∀ p x, own' p = some x → (p = .s 0 ∧ ∃ s, own1 (.s s) = some x) ∨ ((∀ t, p ≠ .s t) ∧ own1 p = some x) := by
    intro p x hp
    cases p with
    | s t =>
      simp only [own'] at hp
      split at hp
      · rename_i ht; subst ht; exact .inl ⟨rfl, ho x hp⟩
      · cases hp
    | c b j => exact .inr ⟨by simp, hp⟩
    | b b => exact .inr ⟨by simp, hp⟩
  refine ⟨⟨g1.z, g1.bl, σ'.n⟩, own', ⟨rfl, ?_, ?_, ?_, ?_, ?_, ?_, ?_⟩, ?_, f⟩
  · intro t ht
    have ht0 : t = 0 := by simpa using ht
    subst ht0
    simp only [own', if_true]
    exact hS.restrict hr
  · intro b hbn
    obtain ⟨vs, el, b1, b2, b3, b4⟩ := h1.box b (by omega)
    rw [(k2 b hbn).1, (k2 b hbn).2.1, (k2 b hbn).2.2]
    refine ⟨vs, el, b1, b2, b3, fun j x hj => ?_⟩
    obtain ⟨v, hv, hSx⟩ := b4 j x hj
    exact ⟨v, hv, hSx.restrict (cleanL_iff.1 (hb b hbn) x (List.mem_of_getElem? hj))⟩
  · exact fun b hbn => h1.blk b (by omega)
  · intro p q x hp hq
    rcases key p x hp with ⟨rfl, s, h3⟩ | ⟨h2, h3⟩ <;> rcases key q x hq with ⟨rfl, s', h3'⟩ | ⟨h2', h3'⟩
    · rfl
    · exact absurd (h1.inj _ _ x h3 h3').symm (h2' s)
    · exact absurd (h1.inj _ _ x h3' h3).symm (h2 s')
    · exact h1.inj _ _ x h3 h3'
  · intro p x hp
    rcases key p x hp with ⟨_, s, h3⟩ | ⟨_, h3⟩ <;> exact h1.dis _ x h3
  · intro p x hp
    rcases key p x hp with ⟨_, s, h3⟩ | ⟨_, h3⟩ <;> exact h1.lt _ x h3
  · exact h1.flt
  · exact ⟨e.os, e.tape, e.output, e.size, e.cell, by simp only; omega, e.bl, e.froz⟩

/-- THE FUNCTION: its contract out of its body. -/
theorem aret_of {f : FuncId} {fn : Func} {res : List Rv} {body : Ic} {args : List Pv} {σ σ' : St} {r : Pv} (hlt : f < ynum) (hf : P.funcs[f]? = some fn) (hname : (fn.name == "runtime.NumGoroutine") = false) (hc : compile P ow fn = some ⟨nt, res, body⟩) (hle : args.length ≤ nt)
    (h : body.wp (ARet P G) (Loops P G ow nt) (fun e ρ σ1 => match e with
      | .ex _ => False
      | _ => Fin res σ r σ' ρ σ1) (fun t => args.getD t .un) σ) : ARet P G f args σ r σ' := by
  unfold compile at hc
  cases hb : fn.body with
  | none => rw [hb] at hc; cases hc
  | some c =>
    rw [hb] at hc
    simp only at hc
    split at hc
    · rename_i res' body' hr hcc
      cases hc
      refine ⟨⟨hlt, fn, hf, hname, by simp [hb]⟩, fun g w vs own F hG hsz hI => ?_⟩
      have hI0 : Inv g w σ (fun t => args.getD t .un) (vs ++ Array.replicate (fn.ntmps - vs.size) undef) (fun p => match p with
          | .s t => if t < vs.size then own (.s t) else none
          | q => own q) F := by
        have key : ∀ p x, (match p with
          | .s t => if t < vs.size then own (.s t) else none
          | q => own q) = some x → own p = some x := by
          intro p x hp
          cases p with
          | s t => simp only at hp; split at hp <;> first | exact hp | cases hp
          | c b j => exact hp
          | b b => exact hp
        refine ⟨hI.gn, ?_, hI.box, hI.blk, fun p q x hp hq => hI.inj p q x (key p x hp) (key q x hq), fun p x hp => hI.dis p x (key p x hp), fun p x hp => hI.lt p x (key p x hp), hI.flt⟩
        intro t ht
        by_cases htv : t < vs.size
        · have := hI.slot t htv
          simp only [htv, if_true, Array.getD_eq_getD_getElem?] at this ⊢
          rw [Array.getElem?_append_left htv]
          exact this
        · simp only [htv, if_false, Array.getD_eq_getD_getElem?]
          rw [Array.getElem?_append_right (by omega)]
          have h1 : args.getD t .un = .un := by
            rw [List.getD_eq_getElem?_getD, List.getElem?_eq_none (by omega)]; rfl
          rw [h1]
          have h2 : (Array.replicate (fn.ntmps - vs.size) undef)[t - vs.size]?.getD undef = undef := by
            rw [Array.getElem?_replicate]; split <;> rfl
          rw [h2]
          exact .sh .un
      refine calls_of_wp hf hb (wp_mono (cCode_snd c body hcc _ _ σ h F g w [] _ w hG ⟨g, _, hI0, Ext.refl g w, Fr.refl F g w, by simp; omega, rfl⟩) fun e a1 w1 hq => ?_)
      have fin : AtK fn.ntmps F g w [] (Fin res σ r σ') a1 w1 → a1.defers = [] ∧ ∃ v, (results fn a1.tmps).run P w1 = .ok v w1 ∧ ∃ v', Ending.returned v = .returned v' ∧ ∃ g' own', Inv g' w1 σ' (fun _ => r) #[v'] own' F ∧ Ext g w g' w1 ∧ Fr F g w g' w1 := by
        rintro ⟨ρ1, σ1, ⟨g1, own1, hI1, hE1, hF1, hn1, hds⟩, hfin⟩
        refine ⟨hds, ?_⟩
        rcases hfin with ⟨n, xs, rfl, hρ, rfl, hk⟩ | ⟨hok, xs, hxs, rfl, hk⟩
        · -- one result, owned
          have hfr : ∃ t, fn.results.toList = [.tmp t] ∧ t = n ∧ t < fn.ntmps := by
            cases hrl : fn.results.toList with
            | nil => rw [hrl] at hr; simp [cRes] at hr
            | cons a l =>
              rw [hrl] at hr
              cases a with
              | tmp t =>
                simp only [cRes] at hr
                split at hr
                · rename_i hlt
                  rw [Option.map_eq_some_iff] at hr
                  obtain ⟨l', hl', he⟩ := hr
                  cases he
                  cases l with
                  | nil => exact ⟨n, rfl, rfl, hlt⟩
                  | cons b l =>
                    cases b <;> simp only [cRes] at hl' <;> (split at hl') <;> first | (cases hl'; done) | (rw [Option.map_eq_some_iff] at hl'; obtain ⟨_, _, he⟩ := hl'; cases he) | skip
                    split at hl' <;> cases hl'
                · cases hr
              | cell a t =>
                simp only [cRes] at hr
                split at hr
                · split at hr <;> cases hr
                · cases hr
          obtain ⟨t, hrl, rfl, hlt⟩ := hfr
          have hS := hI1.slot t (by rw [hn1]; exact hlt)
          rw [hρ] at hS
          obtain ⟨g', own', i1, i2, i3⟩ := fin_inv hI hI1 hE1 hF1 hk hS (fun b hb => ⟨t, hb⟩)
          refine ⟨_, ?_, _, rfl, g', own', i1, i2, i3⟩
          have hfr : fn.results = #[.tmp t] := by rw [← Array.toArray_toList (xs := fn.results), hrl]
          simp [results, hfr]
        · obtain ⟨g2, hI2, hE2, hF2, hb2, hn2, _, hz2⟩ := hI1.shutbs (resArgs ρ1 res) (resArgs_bsl hI1 hn1 _ _ hr)
          obtain ⟨us, h1, h2, h3⟩ := res_run (P := P) hI1 hn1 hE2 hb2 _ res xs hr hxs (fun x hx => ⟨oksArg_at hok x hx, fun b off n he => hz2 b off n (he ▸ hx)⟩)
          have hrun : (results fn a1.tmps).run P w1 = .ok (if h : us.toArray.size = 1 then us.toArray[0] else .tuple us.toArray) w1 := by
            rw [results_eq, Array.mapM_eq_mapM_toList, map_eq_pure_bind]
            simp only [Sem.run_bind, h1, Sem.run_pure, Result.andThen_ok]
          have hS : S g2 w1 (one? xs) (if h : us.toArray.size = 1 then us.toArray[0] else .tuple us.toArray) none := by
            cases xs with
            | nil =>
              have : us = [] := List.eq_nil_of_length_eq_zero (by simpa using h2)
              subst this
              exact .sh (.tup [] _ rfl fun i x v h => by simp at h)
            | cons x xs =>
              cases xs with
              | nil =>
                obtain ⟨u, rfl⟩ : ∃ u, us = [u] := List.length_eq_one_iff.1 (by simpa using h2)
                exact .sh (h3 0 x u rfl rfl)
              | cons y xs =>
                have hne : ¬ us.toArray.size = 1 := by simp at h2 ⊢; omega
                rw [dif_neg hne]
                exact .sh (.tup _ _ (by simp [h2]) fun i x v hx hv => h3 i x v hx (by simpa using hv))
          obtain ⟨g', own', i1, i2, i3⟩ := fin_inv hI hI2 (hE1.trans hE2) (hF1.trans hF2) hk hS (fun b hb => by cases hb)
          exact ⟨_, hrun, _, rfl, g', own', i1, i2, i3⟩
      cases e with
      | normal => exact fin hq
      | ret => exact fin hq
      | exit id => obtain ⟨_, _, _, hf⟩ := hq; exact hf.elim
      | goto l => exact hq.elim
      | panic c => exact hq.elim
      | outgrown => exact hq.elim
    · cases hc

end Gx

/- Part Gx18. -/
/- How a function's contract is shown, in few words. -/
namespace Gx
open Go

/-- A function's small code. -/
structure Has (P : Program) (ow : Ow) (f : FuncId) (ir : If) : Prop where
  lt : f < ynum
  ok : ∃ fn, P.funcs[f]? = some fn ∧ (fn.name == "runtime.NumGoroutine") = false ∧ compile P ow fn = some ir

theorem has_of {P : Program} {ow : Ow} {f : FuncId} {ir : If} {fn : Func} (hf : P.funcs[f]? = some fn) (h : (fn.name == "runtime.NumGoroutine", compile P ow fn) = (false, some ir)) (hlt : Nat.ble (f + 1) ynum = true := by rfl) : Has P ow f ir :=
  ⟨Nat.le_of_ble_eq_true hlt, fn, hf, congrArg Prod.fst h, congrArg Prod.snd h⟩

/-- What a body must come to. -/
def Done (res : List Rv) (σ : St) (r : Pv) (σ' : St) : Post
  | .ex _ => fun _ _ => False
  | _ => fun ρ σ1 => Fin res σ r σ' ρ σ1

def envOf (args : List Pv) : Env := fun t => args.getD t .un

theorem ret_of {P : Program} {G : Nat → Option Obj} {ow : Ow} {f : FuncId} {ir : If} {args : List Pv} {σ σ' : St} {r : Pv} (h : Has P ow f ir) (hle : args.length ≤ ir.nt)
    (hw : ir.body.wp (ARet P G) (Loops P G ow ir.nt) (Done ir.res σ r σ') (envOf args) σ) : ARet P G f args σ r σ' := by
  obtain ⟨hlt, fn, h1, h2, h3⟩ := h
  refine aret_of hlt h1 h2 h3 hle ?_
  refine Eq.mp (congrArg (fun Q => Ic.wp (ARet P G) (Loops P G ow ir.nt) ir.body Q (envOf args) σ) ?_) hw
  funext e ρ σ1; cases e <;> rfl

theorem Keep.same (σ : St) (r : Pv) (σ1 : St) (h1 : σ.n ≤ σ1.n) (h2 : ∀ b, b < σ.n → σ.m b = σ1.m b ∧ σ.ro b = σ1.ro b ∧ σ.t b = σ1.t b) (h3 : clean σ.n r = true) : Keep σ σ1 σ r :=
  ⟨h1, h2, .inr ⟨Nat.le_refl _, h3, fun b hb => .inl ⟨hb, (h2 b hb).1.symm⟩⟩⟩

theorem Keep.refl (σ σ0 : St) (r : Pv) : Keep σ0 σ σ r := ⟨Nat.le_refl _, fun _ _ => ⟨rfl, rfl, rfl⟩, .inl rfl⟩

/-- The end of a function without boxes. -/
theorem fin_plain {res : List Rv} {σ : St} {r : Pv} {ρ : Env} (h1 : oksArg σ (resArgs ρ res)) (h2 : σ.shutbs (resArgs ρ res) = σ) {vs : List Pv} (h3 : retvs ρ σ res = some vs) (h4 : r = one? vs) : Fin res σ r σ ρ σ :=
  .inr ⟨h1, vs, h3, h4, by rw [h2]; exact Keep.refl σ σ r⟩


/-! The calculus asq rewriting: what comes behind an operation stays closed until its value is known. -/
def ob {α : Type} (x : Option α) (k : α → Prop) : Prop := match x with
  | some v => k v
  | none => False
theorem ob_some {α : Type} (v : α) (k : α → Prop) : ob (some v) k = k v := rfl
def kp (K : Env → St → Prop) (d : Nat) (ρ : Env) (σ : St) (v : Pv) : Prop := K (put ρ d v) σ
theorem kp_ap (K : Env → St → Prop) (d : Nat) (ρ : Env) (σ : St) (v : Pv) : kp K d ρ σ v = K (put ρ d v) σ := rfl
def kb (K : Env → St → Prop) (d : Nat) (ρ : Env) (σ : St) (neg : Bool) (v : Bool) : Prop := K (put ρ d (.bool (v != neg))) σ
theorem kb_ap (K : Env → St → Prop) (d : Nat) (ρ : Env) (σ : St) (neg v : Bool) : kb K d ρ σ neg v = K (put ρ d (.bool (v != neg))) σ := rfl
def kq (K : Env → St → Prop) (d : Nat) (a : Od) (ρ : Env) (σ : St) : Prop := K (put ρ d (a.ev ρ).shr) σ
theorem kq_ap (K : Env → St → Prop) (d : Nat) (a : Od) (ρ : Env) (σ : St) : kq K d a ρ σ = K (put ρ d (a.ev ρ).shr) σ := rfl
def ka (K : Env → St → Prop) (d : Nat) (ρ : Env) (σ : St) (sz : Nat) (n : Int) (e : Pv) : Prop := 0 ≤ n ∧ e.cells.length = sz ∧ K (put ρ d (.rptr e.cells 0)) σ
theorem ka_ap (K : Env → St → Prop) (d : Nat) (ρ : Env) (σ : St) (sz : Nat) (n : Int) (e : Pv) : ka K d ρ σ sz n e = (0 ≤ n ∧ e.cells.length = sz ∧ K (put ρ d (.rptr e.cells 0)) σ) := rfl
def kc (K : Env → St → Prop) (d : Option Nat) (ρ : Env) (r : Pv) (σ : St) : Prop := K (optPut ρ d r) σ
theorem kc_ap (K : Env → St → Prop) (d : Option Nat) (ρ : Env) (r : Pv) (σ : St) : kc K d ρ r σ = K (optPut ρ d r) σ := rfl
/-- A call is done. -/
def cw (C : Crel) (f : FuncId) (args : List Pv) (σ : St) (k : Pv → St → Prop) : Prop := ∃ r σ', C f args σ r σ' ∧ k r σ'
theorem cw_of {C : Crel} {f : FuncId} {args : List Pv} {σ : St} {k : Pv → St → Prop} {r : Pv} {σ' : St} (h : C f args σ r σ') (hk : k r σ') : cw C f args σ k := ⟨r, σ', h, hk⟩
/-- A bool decides. -/
def bw (v : Pv) (A B : Env → St → Prop) (ρ : Env) (σ : St) : Prop := match v with
  | .bool t => (t = true → A ρ σ) ∧ (t = false → B ρ σ)
  | _ => False
theorem bw_true (A B : Env → St → Prop) (ρ : Env) (σ : St) : bw (.bool true) A B ρ σ = A ρ σ := by simp [bw]
theorem bw_false (A B : Env → St → Prop) (ρ : Env) (σ : St) : bw (.bool false) A B ρ σ = B ρ σ := by simp [bw]
theorem bw_split {c : Bool} {A B : Env → St → Prop} {ρ : Env} {σ : St} (h1 : c = true → A ρ σ) (h2 : c = false → B ρ σ) : bw (.bool c) A B ρ σ := ⟨h1, h2⟩
/-- A guard decides. -/
def gw (v : Pv) (b : Bool) (A B : Env → St → Prop) (ρ : Env) (σ : St) : Prop := match v with
  | .bool c => if c = b then A ρ σ else B ρ σ
  | .un => B ρ σ
  | _ => False
theorem gw_tt (A B : Env → St → Prop) (ρ : Env) (σ : St) : gw (.bool true) true A B ρ σ = A ρ σ := by simp [gw]
theorem gw_tf (A B : Env → St → Prop) (ρ : Env) (σ : St) : gw (.bool true) false A B ρ σ = B ρ σ := by simp [gw]
theorem gw_ft (A B : Env → St → Prop) (ρ : Env) (σ : St) : gw (.bool false) true A B ρ σ = B ρ σ := by simp [gw]
theorem gw_ff (A B : Env → St → Prop) (ρ : Env) (σ : St) : gw (.bool false) false A B ρ σ = A ρ σ := by simp [gw]
theorem gw_un (b : Bool) (A B : Env → St → Prop) (ρ : Env) (σ : St) : gw .un b A B ρ σ = B ρ σ := rfl
def ku (K : Env → St → Prop) (d : Option Nat) (ρ : Env) (σ : St) : Prop := K (optPut ρ d .un) σ
theorem ku_ap (K : Env → St → Prop) (d : Option Nat) (ρ : Env) (σ : St) : ku K d ρ σ = K (optPut ρ d .un) σ := rfl
/-- A bound is known. -/
def lw (p : Prop) (A : Prop) : Prop := p → A
theorem lw_of {p A : Prop} (h : p → A) : lw p A := h

section
variable (C : Crel) (L : Ic → Post → Env → St → Prop) (K : Env → St → Prop) (ρ : Env) (σ : St) (Q : Post)
theorem it_nil : It.wp C .nil K ρ σ = K ρ σ := by rw [It.wp]
theorem it_any0 : wpAll C [] K ρ σ = True := by rw [wpAll]
theorem it_any1 (t : It) (ts : List It) : wpAll C (t :: ts) K ρ σ = (t.wp C K ρ σ ∧ wpAll C ts K ρ σ) := by rw [wpAll]
theorem it_any (ts : List It) : It.wp C (.any ts) K ρ σ = wpAll C ts K ρ σ := by rw [It.wp]
theorem it_one (o : Ao) (t : It) : It.wp C (.one none o t) K ρ σ = o.wp C (t.wp C K) ρ σ := by rw [It.wp]; rfl
theorem it_g (n : Nat) (b : Bool) (o : Ao) (t : It) : It.wp C (.one (some (n, b)) o t) K ρ σ = gw (ρ n) b (o.wp C (t.wp C K)) (ku (t.wp C K) o.dst) ρ σ := by
  rw [It.wp]; unfold gwp gw; rfl
theorem o_mv (d : Nat) (x : Od) : (Ao.mv d x).wp C K ρ σ = K (put ρ d (x.ev ρ).shr) σ := rfl
theorem o_tk (d s : Nat) : (Ao.tk d (.t s)).wp C K ρ σ = K (put (put ρ s (ρ s).shr) d (ρ s)) σ := rfl
theorem o_tc (d : Nat) (v : Pv) : (Ao.tk d (.c v)).wp C K ρ σ = K (put ρ d v) σ := rfl
theorem o_pk (d : Nat) (c a b : Od) : (Ao.pk d c a b).wp C K ρ σ = bw (c.ev ρ) (kq K d a) (kq K d b) ρ σ := by
  simp only [Ao.wp, bw, kq]
  split <;> simp_all
theorem o_al (d ty : Nat) (z : List Pv) : (Ao.al d ty z).wp C K ρ σ = K (put ρ d (.ptr σ.n 0)) (σ.push ty z) := rfl
theorem o_bx (d ty n : Nat) (x : Od) : (Ao.bx d ty n x).wp C K ρ σ = ((x.ev ρ).cells.length = n ∧ K (put ρ d (.ptr σ.n 0)) (σ.push ty ((x.ev ρ).cells.map Pv.shr))) := rfl
theorem o_bd (d : Nat) (z : List Pv) (ps : List (Nat × Nat × Od)) : (Ao.bd d z ps).wp C K ρ σ = ob ((fillAt z (ps.map fun p => (p.1, p.2.1, (p.2.2.ev ρ).shr))).map .agg) (kp K d ρ σ) := by
  simp only [Ao.wp, ob, kp]
  cases fillAt z (ps.map fun p => (p.1, p.2.1, (p.2.2.ev ρ).shr)) <;> rfl
theorem o_bs (d ty sz : Nat) (ps : List Od) : (Ao.bs d ty sz ps).wp C K ρ σ = ((∀ p ∈ ps, ((p.ev ρ).cells.length = sz ∧ elOk ty (p.ev ρ)) ∧ (p.ev ρ).cells.all Pv.one = true) ∧ K (put ρ d (.sl (!ps.isEmpty) (ps.map fun p => (p.ev ρ).frz))) σ) := rfl
theorem o_nc_p (d : Nat) (x : Od) : (Ao.nc d x).wp C K ρ σ = (match x.ev ρ with
    | .ptr b off => K (put ρ d (.ptr b off)) σ
    | .rptr cs off => K (put ρ d (.rptr cs off)) σ
    | .clo f a b => K (put ρ d (.clo f a b)) σ
    | _ => False) := rfl
theorem o_bi (d : Nat) (op : BinOp) (x y : Od) : (Ao.bi d op x y).wp C K ρ σ = ob (bop op (x.ev ρ) (y.ev ρ)) (kp K d ρ σ) := by
  simp only [Ao.wp, ob, kp]
  cases bop op (x.ev ρ) (y.ev ρ) <;> rfl
theorem o_bq (d : Nat) (i neg : Bool) (x y : Od) : (Ao.bq d i neg x y).wp C K ρ σ = ob (beq i (x.ev ρ) (y.ev ρ)) (kb K d ρ σ neg) := by
  simp only [Ao.wp, ob, kb]
  cases beq i (x.ev ρ) (y.ev ρ) <;> rfl
def eqs (ks : List Nat) : Pv → Pv → Option Bool
  | .agg xs, .agg ys => ceqs ks xs ys
  | _, _ => none
theorem o_eq (d : Nat) (neg : Bool) (ks : List Nat) (x y : Od) : (Ao.eq d neg ks x y).wp C K ρ σ = ob (eqs ks (x.ev ρ) (y.ev ρ)) (kb K d ρ σ neg) := by
  simp only [Ao.wp, ob, kb, eqs]
  split <;> (try split) <;> simp_all
theorem o_no (d : Nat) (op : UnOp) (x : Od) : (Ao.no d op x).wp C K ρ σ = ob (uop op (x.ev ρ)) (kp K d ρ σ) := by
  simp only [Ao.wp, ob, kp]
  cases uop op (x.ev ρ) <;> rfl
def cvs : Cv → Pv → Option Pv
  | .ints k, .int _ n => some (.int k (k.wrap n))
  | .same, .str s => some (.str s)
  | .b2s, .sl _ xs => (bytesOf xs).map .str
  | _, _ => none
theorem o_cv (d : Nat) (k : Cv) (x : Od) : (Ao.cv d k x).wp C K ρ σ = ob (cvs k (x.ev ρ)) (kp K d ρ σ) := by
  simp only [Ao.wp, ob, kp, cvs]
  split <;> (try split) <;> simp_all
theorem o_mf (d : Nat) (f : FuncId) (a b : List Od) : (Ao.mf d f a b).wp C K ρ σ = K (put ρ d (.clo f (a.map fun x => (x.ev ρ).frz) (b.map fun x => (x.ev ρ).frz))) σ := rfl
def fas (off : Nat) : Pv → Option Pv
  | .ptr b o => some (.ptr b (o + off))
  | .rptr cs o => some (.rptr cs (o + off))
  | _ => none
theorem o_fa (d off : Nat) (x : Od) : (Ao.fa d off x).wp C K ρ σ = ob (fas off (x.ev ρ)) (kp K d ρ σ) := by
  simp only [Ao.wp, ob, kp, fas]
  split <;> simp_all
def ncs : Pv → Option Pv
  | .ptr b o => some (.ptr b o)
  | .rptr cs o => some (.rptr cs o)
  | .clo f a b => some (.clo f a b)
  | _ => none
theorem o_nc (d : Nat) (x : Od) : (Ao.nc d x).wp C K ρ σ = ob (ncs (x.ev ρ)) (kp K d ρ σ) := by
  simp only [Ao.wp, ob, kp, ncs]
  split <;> simp_all
def fis (off : Nat) (ag : Option Nat) : Pv → Option Pv
  | .agg cs => offs cs off ag
  | _ => none
theorem o_fi (d off : Nat) (ag : Option Nat) (x : Od) : (Ao.fi d off ag x).wp C K ρ σ = ob (fis off ag (x.ev ρ)) (kp K d ρ σ) := by
  simp only [Ao.wp, ob, kp, fis]
  cases x.ev ρ <;> simp only []
  rename_i cs
  cases offs cs off ag <;> rfl
def exs (i : Nat) : Pv → Option Pv
  | .tup vs => (vs[i]?).map Pv.shr
  | _ => none
theorem o_ex (d i : Nat) (x : Od) : (Ao.ex d x i).wp C K ρ σ = ob (exs i (x.ev ρ)) (kp K d ρ σ) := by
  simp only [Ao.wp, ob, kp, exs]
  split <;> (try split) <;> simp_all
def lds (σ : St) (ag : Option Nat) : Pv → Option Pv
  | .ptr b off => offs (σ.m b) off ag
  | .rptr cs off => offs cs off ag
  | _ => none
theorem o_ld (d : Nat) (ag : Option Nat) (x : Od) : (Ao.ld d ag x).wp C K ρ σ = ob (lds σ ag (x.ev ρ)) (kp K d ρ σ) := by
  simp only [Ao.wp, ob, kp, lds]
  split <;> (try split) <;> simp_all
def ixs : Pv → Pv → Option Pv
  | .str s, .int _ n => if 0 ≤ n then (s[n.toNat]?).map fun c => .int .u8 c.toNat else none
  | _, _ => none
theorem o_ix (d : Nat) (x i : Od) : (Ao.ix d x i).wp C K ρ σ = ob (ixs (x.ev ρ) (i.ev ρ)) (kp K d ρ σ) := by
  simp only [Ao.wp, ob, kp, ixs]
  cases x.ev ρ <;> cases i.ev ρ <;> try rfl
  rename_i s k n
  simp only []
  by_cases h : 0 ≤ n <;> cases hs : s[n.toNat]? <;> simp [h]
def scs (sz : Nat) (lo hi : Option Pv) : Pv → Option Pv
  | .str s => if sz = 0 then (cutAt s.length hi s.length).bind fun h => (cutAt h lo 0).map fun l => .str ((s.take h).drop l) else none
  | .bsl b off n => if sz = 1 then (cutAt n hi n).bind fun h => (cutAt h lo 0).map fun l => if l < h then .bsl b (off + l) (h - l) else .sl false [] else none
  | _ => none
def slc (lo hi : Option Pv) (xs : List Pv) : Option Pv := (cutAt xs.length hi xs.length).bind fun h => (cutAt h lo 0).map fun l => .sl false ((xs.take h).drop l)
def scw (sz : Nat) (lo hi : Option Pv) (k : Pv → Prop) : Pv → Prop
  | .str s => ob (scs sz lo hi (.str s)) k
  | .sl _ xs => (0 < sz ∧ ∀ x ∈ xs, x.cells.length = sz) ∧ ob (slc lo hi xs) k
  | .bsl b off n => ob (scs sz lo hi (.bsl b off n)) k
  | _ => False
theorem o_sc (d sz : Nat) (x : Od) (lo hi : Option Od) : (Ao.sc d sz x lo hi none).wp C K ρ σ = scw sz (lo.map (·.ev ρ)) (hi.map (·.ev ρ)) (kp K d ρ σ) (x.ev ρ) := by
  simp only [Ao.wp]
  cases hx : x.ev ρ <;> simp only [scw, ob, kp, scs, slc, Option.isNone_none, true_and, and_assoc]
  · rename_i s
    by_cases hz : sz = 0
    · simp only [hz, true_and, if_true]
      cases cutAt s.length (hi.map (·.ev ρ)) s.length with
      | none => simp
      | some h => cases hc : cutAt h (lo.map (·.ev ρ)) 0 <;> simp [hc]
    · simp [hz]
  · rename_i own xs
    cases cutAt xs.length (hi.map (·.ev ρ)) xs.length with
    | none => simp
    | some h => cases hc : cutAt h (lo.map (·.ev ρ)) 0 <;> simp [hc]
  · rename_i b off n
    by_cases hz : sz = 1
    · simp only [hz, true_and, if_true]
      cases cutAt n (hi.map (·.ev ρ)) n with
      | none => simp
      | some h => cases hc : cutAt h (lo.map (·.ev ρ)) 0 <;> simp [hc]
    · simp [hz]
def iaw (K : Env → St → Prop) (d sz : Nat) (ρ : Env) (σ : St) : Pv → Pv → Prop
  | .sl _ xs, .int _ n => ob (xs[n.toNat]?) (ka K d ρ σ sz n)
  | .bsl b off m, .int _ n => 0 ≤ n ∧ n < m ∧ sz = 1 ∧ K (put ρ d (.ptr b (off + n.toNat))) σ
  | _, _ => False
theorem o_ia (d sz : Nat) (x i : Od) : (Ao.ia d sz x i).wp C K ρ σ = iaw K d sz ρ σ (x.ev ρ) (i.ev ρ) := by
  simp only [Ao.wp]
  cases x.ev ρ <;> cases i.ev ρ <;> simp only [iaw, ob, ka]
  rename_i xs _ n
  cases xs[n.toNat]? <;> rfl
def caw (C : Crel) (d : Option Nat) (args : List (Bool × Od)) (K : Env → St → Prop) (ρ : Env) (σ : St) : Pv → Prop
  | .clo g a b => argsOk ρ σ args ∧ cw C g (a ++ args.map (fun x => argv ρ σ x) ++ b) (σ.shutbs (args.map fun x => x.2.ev ρ)) (kc K d (gives ρ args))
  | _ => False
theorem o_ca (d : Option Nat) (f : Od) (args : List (Bool × Od)) : (Ao.ca d f args).wp C K ρ σ = caw C d args K ρ σ (f.ev ρ) := by
  simp only [Ao.wp]
  cases f.ev ρ <;> simp only [caw, cw, kc]
def lnw (b : Bool) (k : Pv → Prop) : Pv → Prop
  | .str s => b = true ∧ lw (s.length < 2 ^ 63) (k (.int .i64 s.length))
  | .sl _ xs => b = false ∧ lw (xs.length ≤ 2 ^ 48) (k (.int .i64 xs.length))
  | .bsl _ _ n => b = false ∧ lw (n ≤ 2 ^ 48) (k (.int .i64 n))
  | _ => False
theorem o_ln (d : Nat) (b : Bool) (x : Od) : (Ao.ln d b x).wp C K ρ σ = lnw b (kp K d ρ σ) (x.ev ρ) := by
  simp only [Ao.wp]
  cases x.ev ρ <;> simp only [lnw, lw, kp]
def mms (mx : Bool) : Pv → Pv → Option Pv
  | .int k a, .int _ b => some (.int k (if mx then (if a < b then b else a) else (if b < a then b else a)))
  | _, _ => none
theorem o_mm (d : Nat) (mx : Bool) (x y : Od) : (Ao.mm d mx x y).wp C K ρ σ = ob (mms mx (x.ev ρ) (y.ev ρ)) (kp K d ρ σ) := by
  simp only [Ao.wp]
  cases x.ev ρ <;> cases y.ev ρ <;> rfl
def klt (K : Env → St → Prop) (d : Nat) (ρ : Env) (σ : St) (b off : Nat) (v : Pv) : Prop := σ.ro b = false ∧ K (put ρ d v) (σ.set b ((σ.m b).set off v.shr))
theorem klt_ap (b off d : Nat) (v : Pv) : klt K d ρ σ b off v = (σ.ro b = false ∧ K (put ρ d v) (σ.set b ((σ.m b).set off v.shr))) := rfl
def ltw (K : Env → St → Prop) (d : Nat) (ρ : Env) (σ : St) : Pv → Prop
  | .ptr b off => ob ((σ.m b)[off]?) (klt K d ρ σ b off)
  | _ => False
theorem o_lt (d : Nat) (x : Od) : (Ao.lt d x).wp C K ρ σ = ltw K d ρ σ (x.ev ρ) := by
  simp only [Ao.wp]
  cases x.ev ρ <;> simp only [ltw, ob, klt]
  rename_i b off
  cases (σ.m b)[off]? <;> rfl
def stw (n : Nat) (v : Pv) (k : St → Prop) (σ : St) : Pv → Prop
  | .ptr b off => σ.ro b = false ∧ v.cells.length = n ∧ v.cells.all Pv.one = true ∧ off + n ≤ (σ.m b).length ∧ k (σ.set b ((σ.m b).take off ++ v.cells ++ (σ.m b).drop (off + n)))
  | _ => False
theorem o_st_t (n : Nat) (x : Od) (s : Nat) : (Ao.st n x (.t s)).wp C K ρ σ = stw n (ρ s) (K (put ρ s (ρ s).shr)) σ (x.ev ρ) := by
  simp only [Ao.wp, Od.ev]
  cases x.ev ρ <;> rfl
theorem o_st_c (n : Nat) (x : Od) (v : Pv) : (Ao.st n x (.c v)).wp C K ρ σ = stw n v (K ρ) σ (x.ev ρ) := by
  simp only [Ao.wp, Od.ev]
  cases x.ev ρ <;> rfl
def msw (K : Env → St → Prop) (d ty : Nat) (z : Pv) (bytes : Nat) (ρ : Env) (σ : St) : Pv → Pv → Prop
  | .int .i64 l, .int .i64 c => 0 ≤ l ∧ l = c ∧ bytes * c ≤ 2 ^ 47 ∧ K (put ρ d (.bsl σ.n 0 l.toNat)) (σ.push ty (List.replicate l.toNat z.shr))
  | _, _ => False
theorem o_ms (d ty : Nat) (z : Pv) (bytes : Nat) (x y : Od) : (Ao.ms d ty z bytes x y).wp C K ρ σ = msw K d ty z bytes ρ σ (x.ev ρ) (y.ev ρ) := by
  simp only [Ao.wp]
  cases x.ev ρ <;> cases y.ev ρ <;> (try rfl) <;> (rename_i k _ _; cases k <;> rfl) <;> (rename_i k _ k' _; cases k <;> cases k' <;> rfl)
def apw (K : Env → St → Prop) (d ty n sz : Nat) (ρ : Env) (σ : St) : Pv → Pv → Prop
  | .sl own xs, .sl _ ys => own = true ∧ xs.length + ys.length ≤ 2 ^ 32 ∧ (∀ y ∈ xs, y.cells.length = sz ∧ elOk ty y) ∧ (∀ y ∈ ys, y.cells.length = sz ∧ elOk ty y) ∧
        K (put (put ρ n (.sl false xs)) d (.sl true (xs ++ ys))) σ
  | .sl own xs, .str b => own = true ∧ (sz = 1 ∧ ty = byt) ∧ xs.length + b.length ≤ 2 ^ 32 ∧ (∀ y ∈ xs, y.cells.length = sz ∧ elOk ty y) ∧ K (put (put ρ n (.sl false xs)) d (.sl true (xs ++ ofBytes b))) σ
  | _, _ => False
theorem o_ap (d ty sz n : Nat) (x : Od) : (Ao.ap d ty sz (.t n) x).wp C K ρ σ = apw K d ty n sz ρ σ (ρ n) (x.ev ρ) := by
  simp only [Ao.wp]
  cases ρ n <;> cases x.ev ρ <;> rfl
def ap0 (K : Env → St → Prop) (d ty sz : Nat) (ρ : Env) (σ : St) : Pv → Prop
  | .sl _ ys => ys.length ≤ 2 ^ 32 ∧ (∀ y ∈ ys, y.cells.length = sz ∧ elOk ty y) ∧ K (put ρ d (.sl true ys)) σ
  | .str b => (sz = 1 ∧ ty = byt) ∧ b.length ≤ 2 ^ 32 ∧ K (put ρ d (.sl true (ofBytes b))) σ
  | _ => False
theorem o_ap0 (d ty sz : Nat) (x : Od) : (Ao.ap d ty sz (.c (.sl true [])) x).wp C K ρ σ = ap0 K d ty sz ρ σ (x.ev ρ) := by
  simp only [Ao.wp]
  cases x.ev ρ <;> rfl
theorem c_skip : Ic.wp C L .skip Q ρ σ = Q .nx ρ σ := by rw [Ic.wp]
theorem c_reg (t : It) : Ic.wp C L (.reg t) Q ρ σ = t.wp C (Q .nx) ρ σ := by rw [Ic.wp]
theorem c_seq (a b : Ic) : Ic.wp C L (.seq a b) Q ρ σ = a.wp C L (Post.then (b.wp C L Q) Q) ρ σ := by rw [Ic.wp]
theorem c_cond (c : Od) (a b : Ic) : Ic.wp C L (.cond c a b) Q ρ σ = bw (c.ev ρ) (a.wp C L Q) (b.wp C L Q) ρ σ := by
  rw [Ic.wp]; unfold bw; rfl
theorem c_block (id : Nat) (b : Ic) : Ic.wp C L (.block id b) Q ρ σ = b.wp C L (Post.blk id Q) ρ σ := by rw [Ic.wp]
theorem c_loop (b : Ic) : Ic.wp C L (.loop b) Q ρ σ = L b Q ρ σ := by rw [Ic.wp]
theorem c_exit (id : Nat) : Ic.wp C L (.exit id) Q ρ σ = Q (.ex id) ρ σ := by rw [Ic.wp]
theorem c_ret : Ic.wp C L .ret Q ρ σ = Q .rt ρ σ := by rw [Ic.wp]
theorem q_then : Post.then K Q .nx = K := rfl
theorem q_then_ex (i : Nat) : Post.then K Q (.ex i) = Q (.ex i) := rfl
theorem q_then_rt : Post.then K Q .rt = Q .rt := rfl
theorem q_blk (id i : Nat) : Post.blk id Q (.ex i) = if i = id then Q .nx else Q (.ex i) := rfl
theorem q_blk_nx (id : Nat) : Post.blk id Q .nx = Q .nx := rfl
theorem q_blk_rt (id : Nat) : Post.blk id Q .rt = Q .rt := rfl
end

end Gx
