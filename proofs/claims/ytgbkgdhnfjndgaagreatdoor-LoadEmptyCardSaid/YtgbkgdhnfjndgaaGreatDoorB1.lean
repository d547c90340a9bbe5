import Derived.Laws.Cells
import Derived.Laws.CopyRow
import Derived.Laws.OwnMore
import Derived.Laws.StructEq
import Derived.Laws.Tables
import Derived.Orders
import GoSem.Dispatch
/- A part of the proof: a calculus of values over the model, and the functions that the statement reaches, each once, in that calculus. -/
set_option linter.all false
set_option linter.unusedSimpArgs false
set_option linter.unusedVariables false

/- Part Gx0. -/
/- The abstract values, the small code they run on, and the program that makes that code out of a loaded function. -/
namespace Gx
open Go

/-- Abstract values: a slice is the list of its elements; a pointer leads to a box, or to cells that no longer change. -/
inductive Pv where
  | int (k : IntKind) (n : Int)
  | str (s : List UInt8)
  | bool (b : Bool)
  | nilp | nilf | nili | un
  | agg (cs : List Pv)
  | tup (vs : List Pv)
  | sl (own : Bool) (xs : List Pv)
  | ptr (b off : Nat)
  | rptr (cs : List Pv) (off : Nat)
  | bsl (b off len : Nat)
  | clo (f : FuncId) (first captured : List Pv)
  deriving Inhabited

/-- From here on a function's number stands for a yield. -/
def ynum : Nat := 1099511627776

inductive Od where
  | t (n : Nat)
  | c (v : Pv)

/-- What a conversion does. -/
inductive Cv where
  | ints (k : IntKind)   -- a number to another kind
  | same                 -- a text to a text
  | b2s                  -- bytes to a text
  deriving DecidableEq

inductive Ao where
  | mv (d : Nat) (x : Od)
  | tk (d : Nat) (x : Od)
  | pk (d : Nat) (c a b : Od)
  | al (d ty : Nat) (z : List Pv)
  | bx (d ty n : Nat) (x : Od)
  | bd (d : Nat) (z : List Pv) (ps : List (Nat × Nat × Od))
  | bs (d ty sz : Nat) (ps : List Od)
  | ld (d : Nat) (ag : Option Nat) (x : Od)
  | lt (d : Nat) (x : Od)
  | st (n : Nat) (x v : Od)
  | nc (d : Nat) (x : Od)
  | bi (d : Nat) (op : BinOp) (x y : Od)
  | bq (d : Nat) (isB neg : Bool) (x y : Od)
  | eq (d : Nat) (neg : Bool) (ks : List Nat) (x y : Od)
  | no (d : Nat) (op : UnOp) (x : Od)
  | cv (d : Nat) (k : Cv) (x : Od)
  | mf (d : Nat) (f : FuncId) (first captured : List Od)
  | ms (d ty : Nat) (z : Pv) (bytes : Nat) (len cap : Od)
  | sc (d sz : Nat) (x : Od) (lo hi mx : Option Od)
  | fa (d off : Nat) (x : Od)
  | fi (d off : Nat) (ag : Option Nat) (x : Od)
  | ia (d sz : Nat) (x i : Od)
  | ix (d : Nat) (x i : Od)
  | ex (d : Nat) (x : Od) (i : Nat)
  | ca (d : Option Nat) (f : Od) (args : List (Bool × Od))
  | ap (d ty sz : Nat) (s x : Od)
  | ln (d : Nat) (isS : Bool) (x : Od)
  | mm (d : Nat) (mx : Bool) (x y : Od)
  | bad (d : Option Nat)

def Ao.dst : Ao → Option Nat
  | .mv d _ | .tk d _ | .pk d _ _ _ | .al d _ _ | .bx d _ _ _ | .bd d _ _ | .bs d _ _ _ | .ld d _ _ | .lt d _ | .nc d _ | .bi d _ _ _ | .bq d _ _ _ _ | .eq d _ _ _ _ | .no d _ _
  | .cv d _ _ | .mf d _ _ _ | .ms d _ _ _ _ _ | .sc d _ _ _ _ _ | .fa d _ _ | .fi d _ _ _ | .ia d _ _ _ | .ix d _ _ | .ex d _ _ | .ap d _ _ _ _ | .ln d _ _ | .mm d _ _ _ => some d
  | .st .. => none
  | .ca d _ _ => d
  | .bad d => d

/-- The operations of a region asq a tree: one behind the other, or any of several first. -/
inductive It where
  | nil
  | one (g : Option (Nat × Bool)) (o : Ao) (t : It)
  | any (ts : List It)

inductive Ic where
  | skip
  | reg (t : It)
  | seq (a b : Ic)
  | cond (c : Od) (a b : Ic)
  | block (id : Nat) (b : Ic)
  | loop (b : Ic)
  | exit (id : Nat)
  | ret
  | bad

inductive Rv where
  | t (n : Nat)
  | cell (n : Nat) (ag : Option Nat)

structure If where
  nt : Nat
  res : List Rv
  body : Ic

/-! ### Out of a loaded function -/

mutual
def pvOf : Value → Option Pv
  | .bool b => some (.bool b)
  | .int k n => some (.int k n)
  | .string s => if s.data.toList.length < 4294967296 then some (.str s.data.toList) else none
  | .pointer none => some .nilp
  | .slice none 0 0 => some (.sl true [])
  | .nilFunc => some .nilf
  | .nilIface => some .nili
  | .func (.func f) ⟨[]⟩ ⟨[]⟩ => if f < ynum then some (.clo f [] []) else none
  | .agg ⟨cs⟩ => (pvOfs cs).map .agg
  | .tuple ⟨[]⟩ => some .un
  | _ => none
def pvOfs : List Value → Option (List Pv)
  | [] => some []
  | v :: vs => match pvOf v, pvOfs vs with
    | some x, some xs => some (x :: xs)
    | _, _ => none
end

def odOf (nt : Nat) : Operand → Option Od
  | .tmp t => if t < nt then some (.t t) else none
  | .const v => (pvOf v).map .c
  | .func f => if f < ynum then some (.c (.clo f [] [])) else none
  | .global _ => none

def odsOf (nt : Nat) : List Operand → Option (List Od)
  | [] => some []
  | x :: xs => match odOf nt x, odsOf nt xs with
    | some y, some ys => some (y :: ys)
    | _, _ => none

def odO (nt : Nat) : Option Operand → Option (Option Od)
  | none => some none
  | some x => (odOf nt x).map some

/-- The cells of a type's zero value. -/
def zeroOf (P : Program) (t : TypeId) : Option (List Pv) :=
  match P.info? t with
  | some i => match i.zero with
    | some z => pvOfs z.cells.toList
    | none => none
  | none => none

def sizeT (P : Program) (t : TypeId) : Option Nat := (P.info? t).map (·.size)

/-- How a type is loaded: an aggregate of so many cells, or one cell. -/
def agOf (P : Program) (t : TypeId) : Option (Option Nat) :=
  match P.underlying t, sizeT P t with
  | some (.struct _), some n => some (some n)
  | some (.array _ _), some n => some (some n)
  | some _, some _ => some none
  | _, _ => none

/-- A struct all of whose cells are numbers (1), texts (2) and bools (3), in order. -/
def flatT (P : Program) : Nat → TypeId → Option (List Nat)
  | 0, _ => none
  | d + 1, t =>
    match P.underlying t with
    | some (.int _) => if sizeT P t = some 1 then some [1] else none
    | some .string => if sizeT P t = some 1 then some [2] else none
    | some .bool => if sizeT P t = some 1 then some [3] else none
    | some (.struct fs) =>
      if P.stoodInHeld t then none
      else
        match flatGo (flatT P d) fs.toList 0 with
        | some ks => if sizeT P t = some ks.length then some ks else none
        | none => none
    | _ => none
where
  flatGo (f : TypeId → Option (List Nat)) : List Field → Nat → Option (List Nat)
    | [], _ => some []
    | x :: fs, n =>
      if x.name = "_" then none
      else if x.offset = n then
        match f x.type with
        | some [] => none
        | some (k :: ks) => match flatGo f fs (n + (k :: ks).length) with
          | some ls => some ((k :: ks) ++ ls)
          | none => none
        | none => none
      else none

/-- Which parameters of which functions are handed what is owned. -/
abbrev Ow := List (FuncId × Nat)

def ownArgs (ow : Ow) (f : FuncId) : Nat → List Od → List (Bool × Od)
  | _, [] => []
  | i, x :: xs => (ow.contains (f, i), x) :: ownArgs ow f (i + 1) xs

/-- Is a temporary the first argument of an append of these operations, or handed over asq owned? -/
def takes (ow : Ow) (ops : Array Oper) (t : Nat) : Bool :=
  ops.any fun o => match o.op with
    | .call { callee := .builtin .append, args, .. } => match args[0]? with
      | some (Operand.tmp u) => u == t
      | _ => false
    | .call { callee := .value (.func f), args, .. } => ow.any fun p => p.1 == f && match args[p.2]? with
      | some (Operand.tmp u) => u == t
      | _ => false
    | _ => false

def partsOf (nt : Nat) (f : Nat → Option (Nat × Nat)) : List (Nat × Operand) → Option (List (Nat × Nat × Od))
  | [] => some []
  | (i, x) :: ps => match f i, odOf nt x, partsOf nt f ps with
    | some (o, s), some y, some qs => some ((o, s, y) :: qs)
    | _, _, _ => none

/-- The parts of a slice's literal, none left out, in order. -/
def rowOf (nt : Nat) : Nat → List (Nat × Operand) → Option (List Od)
  | _, [] => some []
  | n, (i, x) :: ps => if i = n then match odOf nt x, rowOf nt (n + 1) ps with
    | some y, some ys => some (y :: ys)
    | _, _ => none else none

def dstOf (nt : Nat) : Option Nat → Option Nat
  | some d => if d < nt then some d else none
  | none => none

def fieldsOf (P : Program) (t : TypeId) : Option (Array Field) :=
  match P.underlying t with
  | some (.struct fs) => some fs
  | _ => none

/-- Numbers and texts; bools; pointers. -/
def scalarT (P : Program) (t : TypeId) : Nat :=
  match P.underlying t with
  | some (.int _) | some .string => 1
  | some .bool => 2
  | some (.pointer _) => 3
  | _ => 0

def elemT (P : Program) (t : TypeId) : Option TypeId :=
  match P.underlying t with
  | some (.slice e) => some e
  | _ => none

/-- A slice's element type with a size that counts: cells, bytes. -/
def rowT (P : Program) (t : TypeId) : Option (TypeId × Nat × Nat) :=
  match elemT P t with
  | some e => match P.info? e with
    | some i => if 0 < i.size ∧ 0 < i.bytes ∧ i.bytes ≤ 16384 ∧ (i.zero.map fun z => z.cells.size) = some i.size then some (e, i.size, i.bytes) else none
    | none => none
  | none => none

/-- The arguments of a call, each with a mark: is it handed over asq owned? -/
def callArgs (ow : Ow) (f : Operand) (asq : List Od) : List (Bool × Od) :=
  match f with
  | .func k => ownArgs ow k 0 asq
  | _ => asq.map fun x => (false, x)

def lone1 {α : Type} : List α → Option α
  | [a] => some a
  | _ => none
def pair2 {α : Type} : List α → Option (α × α)
  | [a, b] => some (a, b)
  | _ => none

def cOp0 (P : Program) (ow : Ow) (nt : Nat) (ops : Array Oper) (o : Oper) : Option Ao := do
  match o.op with
  | .move x => do
    let d ← dstOf nt o.dst
    let y ← odOf nt x
    pure (if takes ow ops d then .tk d y else .mv d y)
  | .assign x => do pure (.tk (← dstOf nt o.dst) (← odOf nt x))
  | .pick c a b => do pure (.pk (← dstOf nt o.dst) (← odOf nt c) (← odOf nt a) (← odOf nt b))
  | .alloc t => do pure (.al (← dstOf nt o.dst) t (← zeroOf P t))
  | .box t x => do pure (.bx (← dstOf nt o.dst) t (← sizeT P t) (← odOf nt x))
  | .build t ps => do
    let fs ← fieldsOf P t
    let pl ← fs.toList.mapM fun f => (P.info? f.type).map fun i => (f.offset, i.size)
    pure (.bd (← dstOf nt o.dst) (← zeroOf P t) (← partsOf nt (pl.toArray[·]?) ps.toList))
  | .buildSlice t n ps => do
    let (e, sz, _) ← rowT P t
    if ps.size = n ∧ n * sz ≤ 2 ^ 24 then pure (.bs (← dstOf nt o.dst) e sz (← rowOf nt 0 ps.toList)) else none
  | .load t x => do
    let d ← dstOf nt o.dst
    let y ← odOf nt x
    match ← agOf P t with
    | some n => pure (.ld d (some n) y)
    | none => pure (if takes ow ops d then .lt d y else .ld d none y)
  | .store t x v => do
    let n ← sizeT P t
    if o.dst.isNone ∧ 0 < n then pure (.st n (← odOf nt x) (← odOf nt v)) else none
  | .nilCheck x => do pure (.nc (← dstOf nt o.dst) (← odOf nt x))
  | .binOp op t x y _ => do
    let d ← dstOf nt o.dst
    let a ← odOf nt x
    let b ← odOf nt y
    let k := scalarT P t
    if k = 1 then pure (.bi d op a b)
    else if k = 2 ∨ k = 3 then match op with
      | .eql => pure (.bq d (k == 2) false a b)
      | .neq => pure (.bq d (k == 2) true a b)
      | _ => none
    else if P.eqGuardType P.depth t then none
    else match op with
      | .eql => do pure (.eq d false (← flatT P 8 t) a b)
      | .neq => do pure (.eq d true (← flatT P 8 t) a b)
      | _ => none
  | .unOp op _ x => do pure (.no (← dstOf nt o.dst) op (← odOf nt x))
  | .convert s t x => do
    let d ← dstOf nt o.dst
    let y ← odOf nt x
    match ← P.underlying s, ← P.underlying t with
    | .int _, .int k => pure (.cv d (.ints k) y)
    | .string, .string => pure (.cv d .same y)
    | .slice e, .string => match ← P.underlying e with
      | .int .u8 => if sizeT P e = some 1 then pure (.cv d .b2s y) else none
      | _ => none
    | _, _ => none
  | .makeFunc fn first captured => match fn with
    | .func f => if f < ynum then do pure (.mf (← dstOf nt o.dst) f (← odsOf nt first.toList) (← odsOf nt captured.toList)) else none
    | _ => none
  | .makeSlice t l c => do
    let (e, sz, bytes) ← rowT P t
    match sz, ← zeroOf P e with
    | 1, [z] => pure (.ms (← dstOf nt o.dst) e z bytes (← odOf nt l) (← odOf nt c))
    | _, _ => none
  | .slice t x lo hi mx => do
    let sz ← match P.underlying t with
      | some .string => pure 0
      | _ => do let (_, s, _) ← rowT P t; pure s
    pure (.sc (← dstOf nt o.dst) sz (← odOf nt x) (← odO nt lo) (← odO nt hi) (← odO nt mx))
  | .fieldAddr t x i => do
    let fs ← fieldsOf P t
    let f ← fs[i]?
    let s ← sizeT P f.type
    if 0 < s then pure (.fa (← dstOf nt o.dst) f.offset (← odOf nt x)) else none
  | .field t x i => do
    let fs ← fieldsOf P t
    let f ← fs[i]?
    pure (.fi (← dstOf nt o.dst) f.offset (← agOf P f.type) (← odOf nt x))
  | .indexAddr t x i => do
    let (_, s, _) ← rowT P t
    pure (.ia (← dstOf nt o.dst) s (← odOf nt x) (← odOf nt i))
  | .index t x i => match P.underlying t with
    | some .string => do pure (.ix (← dstOf nt o.dst) (← odOf nt x) (← odOf nt i))
    | _ => none
  | .extract x i => do pure (.ex (← dstOf nt o.dst) (← odOf nt x) i)
  | .call c => match c.callee with
    | .value f => do
      let g ← odOf nt f
      let asq ← odsOf nt c.args.toList
      let bs := callArgs ow f asq
      if (bs.filter (·.1)).length ≤ 1 then
        match o.dst with
        | some d => if d < nt then pure (.ca (some d) g bs) else none
        | none => pure (.ca none g bs)
      else none
    | .builtin .append => do
      let d ← dstOf nt o.dst
      let (s, x) ← pair2 c.args.toList
      let (ts, tx) ← pair2 c.argTypes.toList
      let (e, sz, _) ← rowT P ts
      match ← P.underlying tx with
      | .slice _ => pure (.ap d e sz (← odOf nt s) (← odOf nt x))
      | .string => if sz = 1 then pure (.ap d e sz (← odOf nt s) (← odOf nt x)) else none
      | _ => none
    | .builtin .len => do
      let d ← dstOf nt o.dst
      let x ← lone1 c.args.toList
      let t ← lone1 c.argTypes.toList
      match ← P.underlying t with
      | .slice _ => pure (.ln d false (← odOf nt x))
      | .string => pure (.ln d true (← odOf nt x))
      | _ => none
    | .builtin .max => do
      let (x, y) ← pair2 c.args.toList
      pure (.mm (← dstOf nt o.dst) true (← odOf nt x) (← odOf nt y))
    | .builtin .min => do
      let (x, y) ← pair2 c.args.toList
      pure (.mm (← dstOf nt o.dst) false (← odOf nt x) (← odOf nt y))
    | _ => none
  | _ => none

/-- An operation; one that is not covered must not be met. -/
def cOp (P : Program) (ow : Ow) (nt : Nat) (ops : Array Oper) (o : Oper) : Option Ao :=
  match cOp0 P ow nt ops o with
  | some a => some a
  | none => some (.bad o.dst)

/-- A guard: the temporary that is asked, and what it must be. -/
def gOf (ops : Array Oper) (nt : Nat) (o : Oper) : Option (Option (Nat × Bool)) :=
  match o.guard with
  | none => some none
  | some (j, b) => match (ops[j]?).bind (·.dst) with
    | some d => if d < nt then some (some (d, b)) else none
    | none => none

/-- The operations one behind the other. -/
def cOps (P : Program) (ow : Ow) (nt : Nat) (ops : Array Oper) : List Nat → Option It
  | [] => some .nil
  | i :: is => match ops[i]? with
    | none => none
    | some o => match gOf ops nt o, cOp P ow nt ops o, cOps P ow nt ops is with
      | some g, some a, some t => if a.dst = o.dst then some (.one g a t) else none
      | _, _, _ => none

/-- Operations whose value hangs on the temporaries alone. -/
def Ao.pure : Ao → Bool
  | .mv .. | .pk .. | .bd .. | .nc .. | .bi .. | .bq .. | .eq .. | .no .. | .mf .. | .sc .. | .fa .. | .fi .. | .ia .. | .ix .. | .ex .. | .ln .. | .mm .. => true
  | .tk _ (.c _) => true
  | .cv _ k _ => match k with
    | .ints _ | .same => true
    | _ => false
  | _ => false

/-- One operation, and what comes behind it. -/
def aOne (P : Program) (ow : Ow) (nt : Nat) (ops : Array Oper) (rest : Option It) (i : Nat) : Option It :=
  match ops[i]? with
  | some o => match gOf ops nt o, cOp P ow nt ops o, rest with
    | some g, some a, some t => if a.dst = o.dst then some (.one g a t) else none
    | _, _, _ => none
  | none => none

/-- Any of some. -/
def aMany (one : Nat → Option It) : List Nat → Option (List It)
  | [] => some []
  | i :: is => match one i, aMany one is with
    | some t, some ts => some (t :: ts)
    | _, _ => none

/-- Is this operation's value one of the temporaries alone? -/
def aFree (P : Program) (ow : Ow) (nt : Nat) (ops : Array Oper) (i : Nat) : Bool :=
  match ops[i]? with
  | some o => match cOp P ow nt ops o with
    | some a => a.pure
    | none => false
  | none => false

/-- All orders of a region that draws its order. -/
def cAny (P : Program) (ow : Ow) (nt : Nat) (ops : Array Oper) : Nat → Array Bool → Option It
  | 0, listed => if (Region.ready .any ops listed).isEmpty then some .nil else none
  | n + 1, listed =>
    if (Region.ready .any ops listed).isEmpty then some .nil
    else
      match (Region.ready .any ops listed).find? fun i => Region.free .any ops listed i && aFree P ow nt ops i with
      | some i => aOne P ow nt ops (cAny P ow nt ops n (listed.setIfInBounds i true)) i
      | none => match Region.ready .any ops listed with
        | [i] => aOne P ow nt ops (cAny P ow nt ops n (listed.setIfInBounds i true)) i
        | rs => (aMany (fun i => aOne P ow nt ops (cAny P ow nt ops n (listed.setIfInBounds i true)) i) rs).map .any

def cCode (P : Program) (ow : Ow) (nt : Nat) : Code → Option Ic
  | .skip => some .skip
  | .region _ ops false => match cOps P ow nt ops (List.range ops.size) with
    | some t => some (.reg t)
    | none => some .bad
  | .region _ ops true =>
    if P.follows .mixedOrders && Region.noSelect ops then
      match cAny P ow nt ops ops.size (Array.replicate ops.size false) with
      | some t => some (.reg t)
      | none => some .bad
    else some .bad
  | .seq a b => match cCode P ow nt a, cCode P ow nt b with
    | some x, some y => some (.seq x y)
    | _, _ => none
  | .cond c a b => match odOf nt c, cCode P ow nt a, cCode P ow nt b with
    | some o, some x, some y => some (.cond o x y)
    | _, _, _ => some .bad
  | .block id b => (cCode P ow nt b).map (.block id)
  | .loop b => (cCode P ow nt b).map .loop
  | .exit id => some (.exit id)
  | .ret => some .ret
  | _ => some .bad

def cRes (P : Program) (nt : Nat) : List ResultVar → Option (List Rv)
  | [] => some []
  | .tmp t :: rs => if t < nt then (cRes P nt rs).map (.t t :: ·) else none
  | .cell a t :: rs => match agOf P t, cRes P nt rs with
    | some ag, some l => if a < nt then some (.cell a ag :: l) else none
    | _, _ => none

def compile (P : Program) (ow : Ow) (fn : Func) : Option If :=
  match fn.body with
  | none => none
  | some c => match cRes P fn.ntmps fn.results.toList, cCode P ow fn.ntmps c with
    | some r, some b => some ⟨fn.ntmps, r, b⟩
    | _, _ => none

end Gx

/- Part Gx1. -/
/- What the small code does to abstract values: a calculus of weakest preconditions. -/
namespace Gx
open Go

abbrev Env := Nat → Pv

def put (ρ : Env) (d : Nat) (v : Pv) : Env := fun t => if t = d then v else ρ t
theorem put_same (ρ : Env) (d : Nat) (v : Pv) : put ρ d v d = v := by simp [put]
theorem put_ne (ρ : Env) {d t : Nat} (v : Pv) (h : t ≠ d) : put ρ d v t = ρ t := by simp [put, h]
theorem put_at (ρ : Env) (d t : Nat) (v : Pv) : put ρ d v t = if t = d then v else ρ t := rfl

/-- The boxes: how many, what is in each, and which are written no more; and how the loop over a function that is under way stands. -/
structure St where
  n : Nat
  m : Nat → List Pv
  ro : Nat → Bool
  t : Nat → Nat
  k : Nat

def St.push (σ : St) (ty : Nat) (cs : List Pv) : St := ⟨σ.n + 1, fun b => if b = σ.n then cs else σ.m b, fun b => if b = σ.n then false else σ.ro b, fun b => if b = σ.n then ty else σ.t b, σ.k⟩
def St.set (σ : St) (b : Nat) (cs : List Pv) : St := ⟨σ.n, fun c => if c = b then cs else σ.m c, σ.ro, σ.t, σ.k⟩

/-- A value that is looked at: what is owned is not handed on. -/
def Pv.shr : Pv → Pv
  | .sl _ xs => .sl false xs
  | x => x
/-- The same of a value and its cells. -/
def Pv.frz : Pv → Pv
  | .sl _ xs => .sl false xs
  | .agg cs => .agg (cs.map Pv.shr)
  | x => x
/-- A value that is handed over: a row of a box is what it holds. -/
def Pv.arg (σ : St) : Pv → Pv
  | .sl _ xs => .sl false xs
  | .agg cs => .agg (cs.map Pv.shr)
  | .bsl b off n => .sl false ((((σ.m b).drop off).take n).map Pv.shr)
  | x => x
/-- Behind that the box is written no more. -/
def St.shutb (σ : St) : Pv → St
  | .bsl b _ _ => ⟨σ.n, σ.m, fun c => if c = b then true else σ.ro c, σ.t, σ.k⟩
  | _ => σ
def St.shutbs (σ : St) (vs : List Pv) : St := vs.foldl St.shutb σ
def Pv.cells : Pv → List Pv
  | .agg cs => cs
  | x => [x]

def Od.ev (ρ : Env) : Od → Pv
  | .t n => ρ n
  | .c v => v

/-- Does a value take one cell? -/
def Pv.one : Pv → Bool
  | .agg _ | .tup _ | .un => false
  | _ => true

/-- uint8's number, and whether a row's element type fits an element: a byte stands in rows of bytes alone. -/
def byt : Nat := 5
def Pv.isU8 : Pv → Bool
  | .int .u8 _ => true
  | _ => false
def elOk (el : Nat) (x : Pv) : Prop := x.isU8 = (el == byt)

/-- Two operands of an operator. -/
def bop (op : BinOp) : Pv → Pv → Option Pv
  | .int k a, .int k' b =>
    match op with
    | .shl => if 0 ≤ b then some (.int k (k.wrap (a * 2 ^ (min b.toNat k.bits)))) else none
    | .shr => if 0 ≤ b then some (.int k (a.fdiv (2 ^ (min b.toNat k.bits)))) else none
    | _ =>
    if k = k' then
      match op with
      | .add => some (.int k (k.wrap (a + b)))
      | .sub => some (.int k (k.wrap (a - b)))
      | .mul => some (.int k (k.wrap (a * b)))
      | .quo => if b = 0 then none else some (.int k (k.wrap (a.tdiv b)))
      | .rem => if b = 0 then none else some (.int k (a.tmod b))
      | .and => some (.int k (k.wrap (BitVec.ofInt k.bits a &&& BitVec.ofInt k.bits b).toNat))
      | .or => some (.int k (k.wrap (BitVec.ofInt k.bits a ||| BitVec.ofInt k.bits b).toNat))
      | .xor => some (.int k (k.wrap (BitVec.ofInt k.bits a ^^^ BitVec.ofInt k.bits b).toNat))
      | .andNot => some (.int k (k.wrap (BitVec.ofInt k.bits a &&& ~~~BitVec.ofInt k.bits b).toNat))
      | .eql => some (.bool (decide (a = b)))
      | .neq => some (.bool (decide (a ≠ b)))
      | .lss => some (.bool (decide (a < b)))
      | .leq => some (.bool (decide (a ≤ b)))
      | .gtr => some (.bool (decide (a > b)))
      | .geq => some (.bool (decide (a ≥ b)))
      | _ => none
    else none
  | .str a, .str b =>
    match op with
    | .add => if a.length + b.length < 2 ^ 63 then some (.str (a ++ b)) else none
    | .eql => some (.bool (decide (a = b)))
    | .neq => some (.bool (decide (a ≠ b)))
    | _ => none
  | _, _ => none

/-- Are two bools, or a pointer and nil, the same? -/
def beq (isB : Bool) : Pv → Pv → Option Bool
  | .bool a, .bool b => if isB then some (decide (a = b)) else none
  | .nilp, .nilp => if isB then none else some true
  | .ptr .., .nilp | .nilp, .ptr .. | .rptr .., .nilp | .nilp, .rptr .. => if isB then none else some false
  | _, _ => none

/-- Are two cells the same number, text or bool? -/
def ceq : Nat → Pv → Pv → Option Bool
  | 1, .int k a, .int k' b => if k = k' then some (decide (a = b)) else none
  | 2, .str a, .str b => some (decide (a = b))
  | 3, .bool a, .bool b => some (decide (a = b))
  | _, _, _ => none

def ceqs : List Nat → List Pv → List Pv → Option Bool
  | [], [], [] => some true
  | k :: ks, x :: xs, y :: ys => match ceq k x y, ceqs ks xs ys with
    | some a, some b => some (a && b)
    | _, _ => none
  | _, _, _ => none

def uop : UnOp → Pv → Option Pv
  | .not, .bool b => some (.bool (!b))
  | .neg, .int k n => some (.int k (k.wrap (0 - n)))
  | _, _ => none

/-- The bytes of a row of bytes. -/
def bytesOf : List Pv → Option (List UInt8)
  | [] => some []
  | .int .u8 n :: xs => (bytesOf xs).map (UInt8.ofNat n.toNat :: ·)
  | _ :: _ => none
def ofBytes (s : List UInt8) : List Pv := s.map fun b => .int .u8 b.toNat

/-- Where a slice expression cuts. -/
def cutAt (n : Nat) : Option Pv → Nat → Option Nat
  | none, d => some d
  | some (.int _ i), _ => if 0 ≤ i ∧ i ≤ n then some i.toNat else none
  | _, _ => none

def fillAt : List Pv → List (Nat × Nat × Pv) → Option (List Pv)
  | z, [] => some z
  | z, (o, s, v) :: ps =>
    if v.cells.length = s ∧ o + s ≤ z.length then fillAt (z.take o ++ v.cells ++ z.drop (o + s)) ps else none

/-- What a call does: the contract of each function is a hypothesis of the code. -/
abbrev Crel := FuncId → List Pv → St → Pv → St → Prop

def optPut (ρ : Env) (d : Option Nat) (v : Pv) : Env :=
  match d with
  | some d => put ρ d v
  | none => ρ

def offs (cs : List Pv) (off : Nat) (ag : Option Nat) : Option Pv :=
  match ag with
  | some n => if off + n ≤ cs.length then some (.agg (((cs.drop off).take n).map Pv.shr)) else none
  | none => (cs[off]?).map Pv.shr

/-- An argument, owned or not. -/
def argv (ρ : Env) (σ : St) : Bool × Od → Pv
  | (true, .t s) => ρ s
  | (_, x) => (x.ev ρ).arg σ
/-- A row of a box that is handed over lies in it. -/
def argOk (σ : St) : Pv → Prop
  | .bsl b off n => off + n ≤ (σ.m b).length ∧ (σ.m b).all Pv.one = true
  | _ => True
def argsOk (ρ : Env) (σ : St) : List (Bool × Od) → Prop
  | [] => True
  | x :: xs => argOk σ (x.2.ev ρ) ∧ argsOk ρ σ xs
/-- What owned arguments leave behind. -/
def gives (ρ : Env) : List (Bool × Od) → Env
  | [] => ρ
  | (true, .t s) :: asq => gives (put ρ s (ρ s).shr) asq
  | _ :: asq => gives ρ asq

/-- One operation. -/
def Ao.wp (C : Crel) (o : Ao) (K : Env → St → Prop) (ρ : Env) (σ : St) : Prop :=
  match o with
  | .mv d x => K (put ρ d (x.ev ρ).shr) σ
  | .tk d x => match x with
    | .t s => K (put (put ρ s (ρ s).shr) d (ρ s)) σ
    | .c v => K (put ρ d v) σ
  | .pk d c a b => match c.ev ρ with
    | .bool true => K (put ρ d (a.ev ρ).shr) σ
    | .bool false => K (put ρ d (b.ev ρ).shr) σ
    | _ => False
  | .al d ty z => K (put ρ d (.ptr σ.n 0)) (σ.push ty z)
  | .bx d ty n x => (x.ev ρ).cells.length = n ∧ K (put ρ d (.ptr σ.n 0)) (σ.push ty ((x.ev ρ).cells.map Pv.shr))
  | .bd d z ps => match fillAt z (ps.map fun p => (p.1, p.2.1, (p.2.2.ev ρ).shr)) with
    | some cs => K (put ρ d (.agg cs)) σ
    | none => False
  | .bs d ty sz ps => (∀ p ∈ ps, ((p.ev ρ).cells.length = sz ∧ elOk ty (p.ev ρ)) ∧ (p.ev ρ).cells.all Pv.one = true) ∧ K (put ρ d (.sl (!ps.isEmpty) (ps.map fun p => (p.ev ρ).frz))) σ
  | .ld d ag x => match x.ev ρ with
    | .ptr b off => match offs (σ.m b) off ag with
      | some v => K (put ρ d v) σ
      | none => False
    | .rptr cs off => match offs cs off ag with
      | some v => K (put ρ d v) σ
      | none => False
    | _ => False
  | .lt d x => match x.ev ρ with
    | .ptr b off => match (σ.m b)[off]? with
      | some v => σ.ro b = false ∧ K (put ρ d v) (σ.set b ((σ.m b).set off v.shr))
      | none => False
    | _ => False
  | .st n x v => match x.ev ρ with
    | .ptr b off => σ.ro b = false ∧ (v.ev ρ).cells.length = n ∧ (v.ev ρ).cells.all Pv.one = true ∧ off + n ≤ (σ.m b).length ∧
      (match v with
       | .t s => K (put ρ s (ρ s).shr)
       | .c _ => K ρ) (σ.set b ((σ.m b).take off ++ (v.ev ρ).cells ++ (σ.m b).drop (off + n)))
    | _ => False
  | .nc d x => match x.ev ρ with
    | .ptr b off => K (put ρ d (.ptr b off)) σ
    | .rptr cs off => K (put ρ d (.rptr cs off)) σ
    | .clo f a b => K (put ρ d (.clo f a b)) σ
    | _ => False
  | .bi d op x y => match bop op (x.ev ρ) (y.ev ρ) with
    | some v => K (put ρ d v) σ
    | none => False
  | .bq d isB neg x y => match beq isB (x.ev ρ) (y.ev ρ) with
    | some v => K (put ρ d (.bool (v != neg))) σ
    | none => False
  | .eq d neg ks x y => match x.ev ρ, y.ev ρ with
    | .agg xs, .agg ys => match ceqs ks xs ys with
      | some b => K (put ρ d (.bool (b != neg))) σ
      | none => False
    | _, _ => False
  | .no d op x => match uop op (x.ev ρ) with
    | some v => K (put ρ d v) σ
    | none => False
  | .cv d k x => match k, x.ev ρ with
    | .ints k, .int _ n => K (put ρ d (.int k (k.wrap n))) σ
    | .same, .str s => K (put ρ d (.str s)) σ
    | .b2s, .sl _ xs => match bytesOf xs with
      | some s => K (put ρ d (.str s)) σ
      | none => False
    | _, _ => False
  | .mf d f first captured => K (put ρ d (.clo f (first.map fun x => (x.ev ρ).frz) (captured.map fun x => (x.ev ρ).frz))) σ
  | .ms d ty z bytes len cap => match len.ev ρ, cap.ev ρ with
    | .int .i64 l, .int .i64 c => 0 ≤ l ∧ l = c ∧ bytes * c ≤ 2 ^ 47 ∧ K (put ρ d (.bsl σ.n 0 l.toNat)) (σ.push ty (List.replicate l.toNat z.shr))
    | _, _ => False
  | .sc d sz x lo hi mx => match x.ev ρ with
    | .str s => sz = 0 ∧ mx.isNone ∧ match cutAt s.length (hi.map (·.ev ρ)) s.length with
      | some h => match cutAt h (lo.map (·.ev ρ)) 0 with
        | some l => K (put ρ d (.str ((s.take h).drop l))) σ
        | none => False
      | none => False
    | .sl _ xs => 0 < sz ∧ mx.isNone ∧ (∀ x ∈ xs, x.cells.length = sz) ∧ match cutAt xs.length (hi.map (·.ev ρ)) xs.length with
      | some h => match cutAt h (lo.map (·.ev ρ)) 0 with
        | some l => K (put ρ d (.sl false ((xs.take h).drop l))) σ
        | none => False
      | none => False
    | .bsl b off n => sz = 1 ∧ mx.isNone ∧ match cutAt n (hi.map (·.ev ρ)) n with
      | some h => match cutAt h (lo.map (·.ev ρ)) 0 with
        | some l => K (put ρ d (if l < h then .bsl b (off + l) (h - l) else .sl false [])) σ
        | none => False
      | none => False
    | _ => False
  | .fa d off x => match x.ev ρ with
    | .ptr b o => K (put ρ d (.ptr b (o + off))) σ
    | .rptr cs o => K (put ρ d (.rptr cs (o + off))) σ
    | _ => False
  | .fi d off ag x => match x.ev ρ with
    | .agg cs => match offs cs off ag with
      | some v => K (put ρ d v) σ
      | none => False
    | _ => False
  | .ia d sz x i => match x.ev ρ, i.ev ρ with
    | .sl _ xs, .int _ n => match xs[n.toNat]? with
      | some e => 0 ≤ n ∧ e.cells.length = sz ∧ K (put ρ d (.rptr e.cells 0)) σ
      | none => False
    | .bsl b off m, .int _ n => 0 ≤ n ∧ n < m ∧ sz = 1 ∧ K (put ρ d (.ptr b (off + n.toNat))) σ
    | _, _ => False
  | .ix d x i => match x.ev ρ, i.ev ρ with
    | .str s, .int _ n => match s[n.toNat]? with
      | some c => 0 ≤ n ∧ K (put ρ d (.int .u8 c.toNat)) σ
      | none => False
    | _, _ => False
  | .ex d x i => match x.ev ρ with
    | .tup vs => match vs[i]? with
      | some v => K (put ρ d v.shr) σ
      | none => False
    | _ => False
  | .ca d f args => match f.ev ρ with
    | .clo g first captured => argsOk ρ σ args ∧ ∃ r σ', C g (first ++ args.map (fun x => argv ρ σ x) ++ captured) (σ.shutbs (args.map fun x => x.2.ev ρ)) r σ' ∧ K (optPut (gives ρ args) d r) σ'
    | _ => False
  | .ap d ty sz s x => match s with
    | .t n => match ρ n, x.ev ρ with
      | .sl own xs, .sl _ ys => own = true ∧ xs.length + ys.length ≤ 2 ^ 32 ∧ (∀ y ∈ xs, y.cells.length = sz ∧ elOk ty y) ∧ (∀ y ∈ ys, y.cells.length = sz ∧ elOk ty y) ∧
        K (put (put ρ n (.sl false xs)) d (.sl true (xs ++ ys))) σ
      | .sl own xs, .str b => own = true ∧ (sz = 1 ∧ ty = byt) ∧ xs.length + b.length ≤ 2 ^ 32 ∧ (∀ y ∈ xs, y.cells.length = sz ∧ elOk ty y) ∧ K (put (put ρ n (.sl false xs)) d (.sl true (xs ++ ofBytes b))) σ
      | _, _ => False
    | .c (.sl true []) => match x.ev ρ with
      | .sl _ ys => ys.length ≤ 2 ^ 32 ∧ (∀ y ∈ ys, y.cells.length = sz ∧ elOk ty y) ∧ K (put ρ d (.sl true ys)) σ
      | .str b => (sz = 1 ∧ ty = byt) ∧ b.length ≤ 2 ^ 32 ∧ K (put ρ d (.sl true (ofBytes b))) σ
      | _ => False
    | .c _ => False
  | .ln d isS x => match x.ev ρ with
    | .str s => isS = true ∧ (s.length < 2 ^ 63 → K (put ρ d (.int .i64 s.length)) σ)
    | .sl _ xs => isS = false ∧ (xs.length ≤ 2 ^ 48 → K (put ρ d (.int .i64 xs.length)) σ)
    | .bsl _ _ n => isS = false ∧ (n ≤ 2 ^ 48 → K (put ρ d (.int .i64 n)) σ)
    | _ => False
  | .mm d mx x y => match x.ev ρ, y.ev ρ with
    | .int k a, .int _ b => K (put ρ d (.int k (if mx then (if a < b then b else a) else (if b < a then b else a)))) σ
    | _, _ => False
  | .bad _ => False

/-- An operation behind a guard. -/
def gwp (C : Crel) (g : Option (Nat × Bool)) (o : Ao) (K : Env → St → Prop) (ρ : Env) (σ : St) : Prop :=
  match g with
  | none => o.wp C K ρ σ
  | some (t, b) => match ρ t with
    | .bool c => if c = b then o.wp C K ρ σ else K (optPut ρ o.dst .un) σ
    | .un => K (optPut ρ o.dst .un) σ
    | _ => False

mutual
def It.wp (C : Crel) : It → (Env → St → Prop) → Env → St → Prop
  | .nil, K, ρ, σ => K ρ σ
  | .one g o t, K, ρ, σ => gwp C g o (t.wp C K) ρ σ
  | .any ts, K, ρ, σ => wpAll C ts K ρ σ
def wpAll (C : Crel) : List It → (Env → St → Prop) → Env → St → Prop
  | [], _, _, _ => True
  | t :: ts, K, ρ, σ => t.wp C K ρ σ ∧ wpAll C ts K ρ σ
end

/-- Where a piece of code ends. -/
inductive Ex where
  | nx
  | ex (id : Nat)
  | rt
  deriving DecidableEq

abbrev Post := Ex → Env → St → Prop

def Post.then (K : Env → St → Prop) (Q : Post) : Post
  | .nx => K
  | e => Q e
def Post.blk (id : Nat) (Q : Post) : Post
  | .ex i => if i = id then Q .nx else Q (.ex i)
  | e => Q e

/-- The code. 'L' says what a loop does. -/
def Ic.wp (C : Crel) (L : Ic → Post → Env → St → Prop) : Ic → Post → Env → St → Prop
  | .skip, Q, ρ, σ => Q .nx ρ σ
  | .reg t, Q, ρ, σ => t.wp C (Q .nx) ρ σ
  | .seq a b, Q, ρ, σ => a.wp C L (Post.then (b.wp C L Q) Q) ρ σ
  | .cond c a b, Q, ρ, σ => match c.ev ρ with
    | .bool t => (t = true → a.wp C L Q ρ σ) ∧ (t = false → b.wp C L Q ρ σ)
    | _ => False
  | .block id b, Q, ρ, σ => b.wp C L (Post.blk id Q) ρ σ
  | .loop b, Q, ρ, σ => L b Q ρ σ
  | .exit id, Q, ρ, σ => Q (.ex id) ρ σ
  | .ret, Q, ρ, σ => Q .rt ρ σ
  | .bad, _, _, _ => False

end Gx

/- Part Gx2. -/
/- How abstract values and worlds stand to the machine's. -/
namespace Gx
open Go

structure Gh where
  z : Nat → Option Nat
  bl : Nat → Nat
  n : Nat

def Gh.stable (g : Gh) (b o : Nat) : Prop := ∀ k, g.z b = some k → o < k

inductive R (g : Gh) (w : World) : Pv → Value → Prop
  | int (k : IntKind) (n : Int) : R g w (.int k n) (.int k n)
  | str (l : List UInt8) (s : ByteArray) (h : s.data.toList = l) (hl : l.length < 2 ^ 63) : R g w (.str l) (.string s)
  | bool (b : Bool) : R g w (.bool b) (.bool b)
  | nilp : R g w .nilp (.pointer none)
  | nilf : R g w .nilf .nilFunc
  | nili : R g w .nili .nilIface
  | un : R g w .un (.tuple #[])
  | agg (cs : List Pv) (vs : Array Value) (hl : cs.length = vs.size) (h : ∀ (i : Nat) x v, cs[i]? = some x → vs[i]? = some v → R g w x v) : R g w (.agg cs) (.agg vs)
  | tup (cs : List Pv) (vs : Array Value) (hl : cs.length = vs.size) (h : ∀ (i : Nat) x v, cs[i]? = some x → vs[i]? = some v → R g w x v) : R g w (.tup cs) (.tuple vs)
  | slnil (own : Bool) : R g w (.sl own []) (.slice none 0 0)
  | sl (xs : List Pv) (a : Addr) (c k : Nat) (vs : Nat → Value) (hsp : a.spot = none) (hc : xs.length ≤ c) (hc2 : xs.length ≤ 2 ^ 48) (hk : 0 < k)
      (hx : ∀ x ∈ xs, x.cells.length = k ∧ x.cells.all Pv.one = true)
      (hcell : ∀ j, j < xs.length * k → w.cell? ⟨a.block, a.off + j, none⟩ = some (vs j) ∧ g.stable a.block (a.off + j))
      (h : ∀ (j : Nat) x, (xs.flatMap Pv.cells)[j]? = some x → R g w x (vs j)) : R g w (.sl false xs) (.slice (some a) xs.length c)
  | ptr (b off : Nat) (h : b < g.n) : R g w (.ptr b off) (.pointer (some ⟨g.bl b, off, none⟩))
  | rptr (cs : List Pv) (off : Nat) (b o : Nat) (vs : Nat → Value)
      (hcell : ∀ j, j < cs.length → w.cell? ⟨b, o + j, none⟩ = some (vs j) ∧ g.stable b (o + j))
      (h : ∀ (j : Nat) x, cs[j]? = some x → R g w x (vs j)) : R g w (.rptr cs off) (.pointer (some ⟨b, o + off, none⟩))
  | bsl (b off n c : Nat) (h : b < g.n) (hc : n ≤ c) (hc2 : n ≤ 2 ^ 48) : R g w (.bsl b off n) (.slice (some ⟨g.bl b, off, none⟩) n c)
  | clo (f : FuncId) (fs cs : List Pv) (us vs : Array Value) (hf : fs.length = us.size) (hc : cs.length = vs.size)
      (h1 : ∀ (i : Nat) x v, fs[i]? = some x → us[i]? = some v → R g w x v) (h2 : ∀ (i : Nat) x v, cs[i]? = some x → vs[i]? = some v → R g w x v) (hlt : f < ynum) :
      R g w (.clo f fs cs) (.func (.func f) us vs)
  | yld (l : Nat) : R g w (.clo (ynum + l) [] []) (.func (.yield l) #[] #[])

/-- How a world goes on: what is settled stays. -/
structure Ext (g : Gh) (w : World) (g' : Gh) (w' : World) : Prop where
  os : w'.os = w.os
  tape : w'.tape = w.tape
  output : w'.output = w.output
  size : w.heap.size ≤ w'.heap.size
  cell : ∀ (b o : Nat) v, w.cell? ⟨b, o, none⟩ = some v → g.stable b o → w'.cell? ⟨b, o, none⟩ = some v ∧ g'.stable b o
  nle : g.n ≤ g'.n
  bl : ∀ b, b < g.n → g'.bl b = g.bl b
  froz : ∀ b, b < w.heap.size → g.z b = none → g'.z b = none ∧ w'.heap[b]? = w.heap[b]?

theorem Ext.refl (g : Gh) (w : World) : Ext g w g w := ⟨rfl, rfl, rfl, Nat.le_refl _, fun _ _ _ h k => ⟨h, k⟩, Nat.le_refl _, fun _ _ => rfl, fun _ _ h => ⟨h, rfl⟩⟩
theorem Ext.trans {g g1 g2 : Gh} {w w1 w2 : World} (h : Ext g w g1 w1) (k : Ext g1 w1 g2 w2) : Ext g w g2 w2 where
  os := k.os.trans h.os
  tape := k.tape.trans h.tape
  output := k.output.trans h.output
  size := Nat.le_trans h.size k.size
  cell b o v hv hs := by obtain ⟨h1, h2⟩ := h.cell b o v hv hs; exact k.cell b o v h1 h2
  nle := Nat.le_trans h.nle k.nle
  bl b hb := (k.bl b (Nat.lt_of_lt_of_le hb h.nle)).trans (h.bl b hb)
  froz b hb hz := by
    obtain ⟨h1, h2⟩ := h.froz b hb hz
    obtain ⟨k1, k2⟩ := k.froz b (Nat.lt_of_lt_of_le hb h.size) h1
    exact ⟨k1, k2.trans h2⟩

theorem R.mono {g g' : Gh} {w w' : World} (e : Ext g w g' w') {x : Pv} {v : Value} (h : R g w x v) : R g' w' x v := by
  induction h with
  | int k n => exact .int k n
  | str l s h hl => exact .str l s h hl
  | bool b => exact .bool b
  | nilp => exact .nilp
  | nilf => exact .nilf
  | nili => exact .nili
  | un => exact .un
  | agg cs vs hl h ih => exact .agg cs vs hl fun i x v hx hv => ih i x v hx hv
  | tup cs vs hl h ih => exact .tup cs vs hl fun i x v hx hv => ih i x v hx hv
  | slnil own => exact .slnil own
  | sl xs a c k vs hsp hc hc2 hk hx hcell h ih =>
    exact .sl xs a c k vs hsp hc hc2 hk hx (fun j hj => e.cell _ _ _ (hcell j hj).1 (hcell j hj).2) fun j x hx => ih j x hx
  | ptr b off h => rw [← e.bl b h]; exact .ptr b off (Nat.lt_of_lt_of_le h e.nle)
  | rptr cs off b o vs hcell h ih => exact .rptr cs off b o vs (fun j hj => e.cell _ _ _ (hcell j hj).1 (hcell j hj).2) fun j x hx => ih j x hx
  | bsl b off n c h hc hc2 => rw [← e.bl b h]; exact .bsl b off n c (Nat.lt_of_lt_of_le h e.nle) hc hc2
  | clo f fs cs us vs hf hc h1 h2 hlt ih1 ih2 => exact .clo f fs cs us vs hf hc (fun i x v a b => ih1 i x v a b) (fun i x v a b => ih2 i x v a b) hlt
  | yld l => exact .yld l

/-- A row of the call's own. -/
structure OwnRow (g : Gh) (w : World) (xs : List Pv) (v : Value) (b : Nat) : Prop where
  ne : xs ≠ []
  ex : ∃ (c k : Nat) (cs : Array Value) (el : TypeId), v = .slice (some ⟨b, 0, none⟩) xs.length c ∧ w.heap[b]? = some (.cells cs el (0, 0)) ∧ g.z b = some (xs.length * k) ∧ (0 < k ∧ ∀ x ∈ xs, elOk el x) ∧
    c * k ≤ cs.size ∧ xs.length ≤ c ∧ xs.length ≤ 2 ^ 48 ∧ (∀ x ∈ xs, x.cells.length = k ∧ x.cells.all Pv.one = true) ∧ ∀ (j : Nat) x, (xs.flatMap Pv.cells)[j]? = some x → ∃ v, cs[j]? = some v ∧ R g w x v

theorem flat_len {xs : List Pv} {k : Nat} (h : ∀ x ∈ xs, x.cells.length = k) : (xs.flatMap Pv.cells).length = xs.length * k := by
  induction xs with
  | nil => simp
  | cons x xs ih =>
    have h1 := h x (by simp)
    have h2 := ih fun y hy => h y (by simp [hy])
    simp only [List.flatMap_cons, List.length_append, List.length_cons, h1, h2, Nat.succ_mul]
    omega

theorem OwnRow.shr {g : Gh} {w : World} {xs : List Pv} {v : Value} {b : Nat} (h : OwnRow g w xs v b) : R g w (.sl false xs) v := by
  obtain ⟨hne, c, k, cs, el, rfl, hh, hz, hk, hcs, hc, hc2, hx, hr⟩ := h
  have hl := flat_len fun x h => (hx x h).1
  have hget : ∀ j, j < xs.length * k → ∃ x, (xs.flatMap Pv.cells)[j]? = some x := fun j hj => ⟨_, List.getElem?_eq_getElem (by omega)⟩
  refine .sl xs ⟨b, 0, none⟩ c k (fun j => cs.getD j undef) rfl hc hc2 hk.1 hx (fun j hj => ?_) fun j x hj => ?_
  · obtain ⟨x, hx'⟩ := hget j hj
    obtain ⟨v, hv, _⟩ := hr j x hx'
    refine ⟨?_, fun k' hk' => ?_⟩
    · simp only [World.cell?, hh, Option.isSome_none, Bool.false_eq_true, if_false, Nat.zero_add]
      rw [hv]
      simp [hv]
    · simp only at hk' ⊢
      rw [hz] at hk'
      cases hk'
      omega
  · obtain ⟨v, hv, hrr⟩ := hr j x hj
    simpa [hv] using hrr

/-- A slot: what it holds, and the row that it owns. -/
inductive S (g : Gh) (w : World) : Pv → Value → Option Nat → Prop
  | sh {x : Pv} {v : Value} (h : R g w x v) : S g w x v none
  | own {xs : List Pv} {v : Value} {b : Nat} (h : OwnRow g w xs v b) : S g w (.sl true xs) v (some b)

theorem R.shr {g : Gh} {w : World} {x : Pv} {v : Value} (h : R g w x v) : R g w x.shr v := by
  cases h <;> simp only [Pv.shr] <;> first
    | exact .slnil false
    | (constructor <;> assumption)
    | skip

theorem S.shr {g : Gh} {w : World} {x : Pv} {v : Value} {o : Option Nat} (h : S g w x v o) : R g w x.shr v := by
  cases h with
  | sh h => exact h.shr
  | own h => exact h.shr

theorem R.frz {g : Gh} {w : World} {x : Pv} {v : Value} (h : R g w x v) : R g w x.frz v := by
  cases h with
  | agg cs vs hl h =>
    refine .agg _ vs (by simpa using hl) fun i x v hx hv => ?_
    rw [List.getElem?_map] at hx
    cases hc : cs[i]? with
    | none => simp [hc] at hx
    | some y =>
      simp only [hc, Option.map_some, Option.some.injEq] at hx
      subst hx
      exact (h i y v hc hv).shr
  | int k n => exact .int k n
  | str l s h hl => exact .str l s h hl
  | bool b => exact .bool b
  | nilp => exact .nilp
  | nilf => exact .nilf
  | nili => exact .nili
  | un => exact .un
  | tup cs vs hl h => exact .tup cs vs hl h
  | slnil own => exact .slnil false
  | sl xs a c k vs hsp hc hc2 hk hx hcell h => exact .sl xs a c k vs hsp hc hc2 hk hx hcell h
  | ptr b off h => exact .ptr b off h
  | rptr cs off b o vs hcell h => exact .rptr cs off b o vs hcell h
  | bsl b off n c h hc hc2 => exact .bsl b off n c h hc hc2
  | clo f fs cs us vs hf hc h1 h2 hlt => exact .clo f fs cs us vs hf hc h1 h2 hlt
  | yld l => exact .yld l

theorem S.frz {g : Gh} {w : World} {x : Pv} {v : Value} {o : Option Nat} (h : S g w x v o) : R g w x.frz v := by
  cases h with
  | sh h => exact h.frz
  | own h => exact h.shr

/-- The cells of a value. -/
theorem R.cells {g : Gh} {w : World} {x : Pv} {v : Value} (h : R g w x v) : x.cells.length = v.cells.size ∧ ∀ (j : Nat) y, x.cells[j]? = some y → ∃ u, v.cells[j]? = some u ∧ R g w y u := by
  have one : ∀ {x : Pv} {v : Value}, R g w x v → x.cells = [x] → v.cells = #[v] → x.cells.length = v.cells.size ∧ ∀ (j : Nat) y, x.cells[j]? = some y → ∃ u, v.cells[j]? = some u ∧ R g w y u := by
    intro x v h h1 h2
    rw [h1, h2]
    refine ⟨rfl, fun j y hj => ?_⟩
    cases j with
    | zero => simp only [List.getElem?_cons_zero, Option.some.injEq] at hj; subst hj; exact ⟨v, rfl, h⟩
    | succ j => simp at hj
  cases h with
  | agg cs vs hl h =>
    refine ⟨hl, fun j y hj => ?_⟩
    have hlt : j < vs.size := by have := (List.getElem?_eq_some_iff.1 hj).1; simp only [Pv.cells] at this; omega
    exact ⟨vs[j], by simp [Value.cells, hlt], h j y _ hj (by simp [hlt])⟩
  | tup cs vs hl h => exact one (.tup cs vs hl h) rfl rfl
  | int k n => exact one (.int k n) rfl rfl
  | str l s h hl => exact one (.str l s h hl) rfl rfl
  | bool b => exact one (.bool b) rfl rfl
  | nilp => exact one .nilp rfl rfl
  | nilf => exact one .nilf rfl rfl
  | nili => exact one .nili rfl rfl
  | un => exact one .un rfl rfl
  | slnil own => exact one (.slnil own) rfl rfl
  | sl xs a c k vs hsp hc hc2 hk hx hcell h => exact one (.sl xs a c k vs hsp hc hc2 hk hx hcell h) rfl rfl
  | ptr b off h => exact one (.ptr b off h) rfl rfl
  | rptr cs off b o vs hcell h => exact one (.rptr cs off b o vs hcell h) rfl rfl
  | bsl b off n c h hc hc2 => exact one (.bsl b off n c h hc hc2) rfl rfl
  | clo f fs cs us vs hf hc h1 h2 hlt => exact one (.clo f fs cs us vs hf hc h1 h2 hlt) rfl rfl
  | yld l => exact one (.yld l) rfl rfl

/-- What may own a row: a slot, a box's cell; and each box owns its block. -/
inductive Pl where
  | s (t : Nat)
  | c (b j : Nat)
  | b (b : Nat)
  deriving DecidableEq

structure Box (g : Gh) (w : World) (cells : List Pv) (ro : Bool) (ty : Nat) (b : Nat) (own : Nat → Option Nat) : Prop where
  ex : ∃ (vs : Array Value) (el : TypeId), w.heap[b]? = some (.cells vs el (0, 0)) ∧ (vs.size = cells.length ∧ el = ty) ∧ g.z b = (if ro then none else some 0) ∧
    ∀ (j : Nat) x, cells[j]? = some x → ∃ v, vs[j]? = some v ∧ S g w x v (own j)

structure Inv (g : Gh) (w : World) (σ : St) (ρ : Env) (tm : Array Value) (own : Pl → Option Nat) (F : Nat → Prop) : Prop where
  gn : g.n = σ.n
  slot : ∀ t, t < tm.size → S g w (ρ t) (tm.getD t undef) (own (.s t))
  box : ∀ b, b < σ.n → Box g w (σ.m b) (σ.ro b) (σ.t b) (g.bl b) (fun j => own (.c b j))
  blk : ∀ b, b < σ.n → own (.b b) = some (g.bl b)
  inj : ∀ p q x, own p = some x → own q = some x → p = q
  dis : ∀ p x, own p = some x → ¬ F x
  lt : ∀ p x, own p = some x → x < w.heap.size
  flt : ∀ x, F x → x < w.heap.size

/-- The frame stays. -/
def Fr (F : Nat → Prop) (g : Gh) (w : World) (g' : Gh) (w' : World) : Prop := ∀ x, F x → w'.heap[x]? = w.heap[x]? ∧ g'.z x = g.z x

theorem Fr.refl (F : Nat → Prop) (g : Gh) (w : World) : Fr F g w g w := fun _ _ => ⟨rfl, rfl⟩
theorem Fr.trans {F : Nat → Prop} {g g1 g2 : Gh} {w w1 w2 : World} (h : Fr F g w g1 w1) (k : Fr F g1 w1 g2 w2) : Fr F g w g2 w2 :=
  fun x hx => ⟨(k x hx).1.trans (h x hx).1, (k x hx).2.trans (h x hx).2⟩

end Gx

/- Part Gx3. -/
/- How the relation goes on when a slot, a box or the world turns. -/
namespace Gx
open Go

variable {g g' : Gh} {w w' : World} {σ : St} {ρ : Env} {tm : Array Value} {own : Pl → Option Nat} {F : Nat → Prop}

theorem OwnRow.keep {xs : List Pv} {v : Value} {b : Nat} (h : OwnRow g w xs v b) (e : Ext g w g' w') (hh : w'.heap[b]? = w.heap[b]?) (hz : g'.z b = g.z b) : OwnRow g' w' xs v b := by
  obtain ⟨hne, c, k, cs, el, rfl, h1, h2, hk, hcs, hc, hc2, hx, hr⟩ := h
  exact ⟨hne, c, k, cs, el, rfl, hh.trans h1, hz.trans h2, hk, hcs, hc, hc2, hx, fun j x hj => by
    obtain ⟨v, hv, hrr⟩ := hr j x hj
    exact ⟨v, hv, hrr.mono e⟩⟩

theorem S.keep {x : Pv} {v : Value} {o : Option Nat} (h : S g w x v o) (e : Ext g w g' w') (hk : ∀ b, o = some b → w'.heap[b]? = w.heap[b]? ∧ g'.z b = g.z b) : S g' w' x v o := by
  cases h with
  | sh h => exact .sh (h.mono e)
  | own h => exact .own (h.keep e (hk _ rfl).1 (hk _ rfl).2)

theorem Box.keep {cs : List Pv} {ro : Bool} {ty b : Nat} {ow : Nat → Option Nat} (h : Box g w cs ro ty b ow) (e : Ext g w g' w') (hb : w'.heap[b]? = w.heap[b]? ∧ g'.z b = g.z b)
    (hk : ∀ j x, ow j = some x → w'.heap[x]? = w.heap[x]? ∧ g'.z x = g.z x) : Box g' w' cs ro ty b ow := by
  obtain ⟨vs, el, h1, h2, h3, h4⟩ := h
  exact ⟨vs, el, hb.1.trans h1, h2, hb.2.trans h3, fun j x hj => by
    obtain ⟨v, hv, hs⟩ := h4 j x hj
    exact ⟨v, hv, hs.keep e fun b hb => hk j b hb⟩⟩

/-- The world goes on; what is owned stays asq it is. -/
theorem Inv.world (h : Inv g w σ ρ tm own F) (e : Ext g w g' w') (hn : g'.n = g.n) (hk : ∀ p x, own p = some x → w'.heap[x]? = w.heap[x]? ∧ g'.z x = g.z x) : Inv g' w' σ ρ tm own F where
  gn := hn.trans h.gn
  slot t ht := (h.slot t ht).keep e fun b hb => hk _ _ hb
  box b hb := by
    have h1 := e.bl b (h.gn ▸ hb)
    rw [h1]
    exact (h.box b hb).keep e (hk _ _ (h.blk b hb)) fun j x hx => hk _ _ hx
  blk b hb := by rw [e.bl b (h.gn ▸ hb)]; exact h.blk b hb
  inj := h.inj
  dis := h.dis
  lt p x hx := Nat.lt_of_lt_of_le (h.lt p x hx) e.size
  flt x hx := Nat.lt_of_lt_of_le (h.flt x hx) e.size

/-- A slot gets a value that owns nothing. -/
theorem Inv.put (h : Inv g w σ ρ tm own F) (d : Nat) {x : Pv} {v : Value} (hx : R g w x v) :
    Inv g w σ (put ρ d x) (tm.setIfInBounds d v) (fun p => if p = .s d then none else own p) F where
  gn := h.gn
  slot t ht := by
    simp only [Array.size_setIfInBounds] at ht
    by_cases hd : t = d
    · subst hd
      simp only [put_same, if_true, Array.getD_eq_getD_getElem?]
      rw [Array.getElem?_setIfInBounds_self_of_lt ht]
      exact .sh hx
    · rw [put_ne _ _ hd, if_neg (by simpa using hd)]
      have := h.slot t ht
      rw [Array.getD_eq_getD_getElem?] at this ⊢
      rw [Array.getElem?_setIfInBounds_ne (by omega)]
      exact this
  box b hb := by
    have := h.box b hb
    simpa using this
  blk b hb := by simpa using h.blk b hb
  inj p q x hp hq := by
    by_cases h1 : p = .s d
    · simp [h1] at hp
    · by_cases h2 : q = .s d
      · simp [h2] at hq
      · rw [if_neg h1] at hp; rw [if_neg h2] at hq; exact h.inj p q x hp hq
  dis p x hp := by
    by_cases h1 : p = .s d
    · simp [h1] at hp
    · rw [if_neg h1] at hp; exact h.dis p x hp
  lt p x hp := by
    by_cases h1 : p = .s d
    · simp [h1] at hp
    · rw [if_neg h1] at hp; exact h.lt p x hp
  flt := h.flt

/-- Ownership that goes from one place to another one, or is dropped: what is left is still apart. -/
structure Moved (own own' : Pl → Option Nat) : Prop where
  inj : ∀ p q x, own' p = some x → own' q = some x → p = q
  from_ : ∀ p x, own' p = some x → ∃ q, own q = some x

/-- A slot's row goes to another slot. -/
theorem Inv.take (h : Inv g w σ ρ tm own F) (s d : Nat) (hs : s < tm.size) :
    Inv g w σ (Gx.put (Gx.put ρ s (ρ s).shr) d (ρ s)) (tm.setIfInBounds d (tm.getD s undef)) (fun p => if p = .s d then own (.s s) else if p = .s s then none else own p) F where
  gn := h.gn
  slot t ht := by
    simp only [Array.size_setIfInBounds] at ht
    by_cases hd : t = d
    · subst hd
      simp only [put_same, if_true, Array.getD_eq_getD_getElem?]
      rw [Array.getElem?_setIfInBounds_self_of_lt ht]
      have := h.slot s hs
      simp only [Array.getD_eq_getD_getElem?] at this ⊢
      simpa using this
    · rw [put_ne _ _ hd, if_neg (by simpa using hd)]
      have hget : (tm.setIfInBounds d (tm.getD s undef)).getD t undef = tm.getD t undef := by
        simp only [Array.getD_eq_getD_getElem?]
        rw [Array.getElem?_setIfInBounds_ne (by omega)]
      rw [hget]
      by_cases hts : t = s
      · subst hts
        simp only [put_same, if_true]
        exact .sh (h.slot t ht).shr
      · rw [put_ne _ _ hts, if_neg (by simpa using hts)]
        exact h.slot t ht
  box b hb := by
    have := h.box b hb
    simpa using this
  blk b hb := by simpa using h.blk b hb
  inj p q x hp hq := by
    have key : ∀ p, (if p = .s d then own (.s s) else if p = .s s then none else own p) = some x → (p = .s d ∧ own (.s s) = some x) ∨ (p ≠ .s d ∧ p ≠ .s s ∧ own p = some x) := by
      intro p hp
      by_cases h1 : p = .s d
      · rw [if_pos h1] at hp; exact .inl ⟨h1, hp⟩
      · rw [if_neg h1] at hp
        by_cases h2 : p = .s s
        · simp [h2] at hp
        · rw [if_neg h2] at hp; exact .inr ⟨h1, h2, hp⟩
    rcases key p hp with ⟨hp1, hp2⟩ | ⟨hp1, hp2, hp3⟩ <;> rcases key q hq with ⟨hq1, hq2⟩ | ⟨hq1, hq2, hq3⟩
    · rw [hp1, hq1]
    · exact absurd (h.inj _ _ x hp2 hq3).symm hq2
    · exact absurd (h.inj _ _ x hq2 hp3).symm hp2
    · exact h.inj _ _ x hp3 hq3
  dis p x hp := by
    by_cases h1 : p = .s d
    · rw [if_pos h1] at hp; exact h.dis _ x hp
    · rw [if_neg h1] at hp
      by_cases h2 : p = .s s
      · simp [h2] at hp
      · rw [if_neg h2] at hp; exact h.dis p x hp
  lt p x hp := by
    by_cases h1 : p = .s d
    · rw [if_pos h1] at hp; exact h.lt _ x hp
    · rw [if_neg h1] at hp
      by_cases h2 : p = .s s
      · simp [h2] at hp
      · rw [if_neg h2] at hp; exact h.lt p x hp
  flt := h.flt

/-- A slot gives its row away: it keeps the right to look at it. -/
theorem Inv.give (h : Inv g w σ ρ tm own F) (s : Nat) : Inv g w σ (Gx.put ρ s (ρ s).shr) tm (fun p => if p = .s s then none else own p) F where
  gn := h.gn
  slot t ht := by
    by_cases hts : t = s
    · subst hts
      simp only [put_same, if_true]
      exact .sh (h.slot t ht).shr
    · rw [put_ne _ _ hts, if_neg (by simpa using hts)]
      exact h.slot t ht
  box b hb := by
    have := h.box b hb
    simpa using this
  blk b hb := by simpa using h.blk b hb
  inj p q x hp hq := by
    by_cases h1 : p = .s s
    · simp [h1] at hp
    · by_cases h2 : q = .s s
      · simp [h2] at hq
      · rw [if_neg h1] at hp; rw [if_neg h2] at hq; exact h.inj p q x hp hq
  dis p x hp := by
    by_cases h1 : p = .s s
    · simp [h1] at hp
    · rw [if_neg h1] at hp; exact h.dis p x hp
  lt p x hp := by
    by_cases h1 : p = .s s
    · simp [h1] at hp
    · rw [if_neg h1] at hp; exact h.lt p x hp
  flt := h.flt

/-- A slot gets a row of its own that nobody else has. -/
theorem Inv.putOwn (h : Inv g w σ ρ tm own F) (d : Nat) {xs : List Pv} {v : Value} {b : Nat} (hx : OwnRow g w xs v b) (hb : ∀ p, own p = some b → p = .s d) (hF : ¬ F b) :
    Inv g w σ (Gx.put ρ d (.sl true xs)) (tm.setIfInBounds d v) (fun p => if p = .s d then some b else own p) F where
  gn := h.gn
  slot t ht := by
    simp only [Array.size_setIfInBounds] at ht
    by_cases hd : t = d
    · subst hd
      simp only [put_same, if_true, Array.getD_eq_getD_getElem?]
      rw [Array.getElem?_setIfInBounds_self_of_lt ht]
      exact .own hx
    · rw [put_ne _ _ hd, if_neg (by simpa using hd)]
      have := h.slot t ht
      rw [Array.getD_eq_getD_getElem?] at this ⊢
      rw [Array.getElem?_setIfInBounds_ne (by omega)]
      exact this
  box b hb := by
    have := h.box b hb
    simpa using this
  blk b hb := by simpa using h.blk b hb
  inj p q x hp hq := by
    by_cases h1 : p = .s d
    · rw [if_pos h1] at hp
      cases hp
      by_cases h2 : q = .s d
      · rw [h1, h2]
      · rw [if_neg h2] at hq; exact absurd (hb q hq) h2
    · rw [if_neg h1] at hp
      by_cases h2 : q = .s d
      · rw [if_pos h2] at hq
        cases hq
        exact absurd (hb p hp) h1
      · rw [if_neg h2] at hq; exact h.inj p q x hp hq
  dis p x hp := by
    by_cases h1 : p = .s d
    · rw [if_pos h1] at hp; cases hp; exact hF
    · rw [if_neg h1] at hp; exact h.dis p x hp
  lt p x hp := by
    by_cases h1 : p = .s d
    · rw [if_pos h1] at hp
      cases hp
      obtain ⟨_, _, _, _, _, _, hh, _⟩ := hx
      exact (Array.getElem?_eq_some_iff.1 hh).1
    · rw [if_neg h1] at hp; exact h.lt p x hp
  flt := h.flt

theorem cell_lt {w : World} {a : Addr} {v : Value} (h : w.cell? a = some v) : a.block < w.heap.size := World.block_lt_of_cell? w a h

/-- A box's block is written. -/
theorem Ext.setRow {b : Nat} (vs : Array Value) (hz : g.z b = some 0) : Ext g w g (w.setRow b vs) where
  os := rfl
  tape := rfl
  output := rfl
  size := by simp
  cell b' o v hv hs := by
    by_cases hb : b' = b
    · subst hb; exact absurd (hs 0 hz) (by omega)
    · exact ⟨(cell_setRow_other w b vs ⟨b', o, none⟩ hb).trans hv, hs⟩
  nle := Nat.le_refl _
  bl _ _ := rfl
  froz b' hb' hz' := by
    refine ⟨hz', setRow_other w b b' vs fun e => ?_⟩
    subst e
    rw [hz] at hz'
    cases hz'

theorem Inv.setBox (h : Inv g w σ ρ tm own F) (b : Nat) (hb : b < σ.n) (hro : σ.ro b = false) (cs : List Pv) (vs : Array Value) (hl : vs.size = cs.length) {ρ' : Env} {tm' : Array Value}
    {own' : Pl → Option Nat} (hc : ∀ (j : Nat) x, cs[j]? = some x → ∃ v, vs[j]? = some v ∧ S g w x v (own' (.c b j)))
    (hs : ∀ t, t < tm'.size → S g w (ρ' t) (tm'.getD t undef) (own' (.s t))) (ho : ∀ b' j, b' ≠ b → own' (.c b' j) = own (.c b' j)) (hbl : ∀ b', own' (.b b') = own (.b b'))
    (hm : Moved own own') : Inv g (w.setRow (g.bl b) vs) (σ.set b cs) ρ' tm' own' F ∧ Ext g w g (w.setRow (g.bl b) vs) ∧ Fr F g w g (w.setRow (g.bl b) vs) := by
  obtain ⟨vs0, el, h1, h2, h3, h4⟩ := h.box b hb
  rw [hro] at h3
  have hz : g.z (g.bl b) = some 0 := by simpa using h3
  have e : Ext g w g (w.setRow (g.bl b) vs) := Ext.setRow vs hz
  have hne : ∀ p x, own' p = some x → p ≠ .b b → x ≠ g.bl b := by
    intro p x hp hpb hx
    subst hx
    exact hpb (hm.inj p (.b b) _ hp (by rw [hbl, h.blk b hb]))
  have hkeep : ∀ x, x ≠ g.bl b → (w.setRow (g.bl b) vs).heap[x]? = w.heap[x]? ∧ g.z x = g.z x := fun x hx => ⟨setRow_other w _ _ _ hx, rfl⟩
  refine ⟨⟨?_, ?_, ?_, ?_, hm.inj, ?_, ?_, ?_⟩, e, ?_⟩
  · exact h.gn
  · exact fun t ht => (hs t ht).keep e fun x hx => hkeep x (hne _ _ hx (by simp))
  · intro b' hb'
    by_cases hbb : b' = b
    · subst hbb
      simp only [St.set, if_true]
      refine ⟨vs, el, setRow_heap w _ _ _ _ _ h1, ⟨hl, h2.2⟩, ?_, fun j x hj => ?_⟩
      · rw [hro]; simpa using hz
      · obtain ⟨v, hv, hS⟩ := hc j x hj
        exact ⟨v, hv, hS.keep e fun x hx => hkeep x (hne _ _ hx (by simp))⟩
    · simp only [St.set, hbb, if_false]
      have hown : (fun j => own' (.c b' j)) = fun j => own (.c b' j) := funext fun j => ho b' j hbb
      rw [hown]
      refine (h.box b' hb').keep e ?_ ?_
      · refine hkeep _ fun he => hbb ?_
        have := h.inj (.b b') (.b b) _ (h.blk b' hb') (by rw [h.blk b hb, he])
        simpa using this
      · intro j x hx
        rw [← ho b' j hbb] at hx
        exact hkeep x (hne _ _ hx (by simp))
  · exact fun b' hb' => by rw [hbl]; exact h.blk b' hb'
  · intro p x hp hF
    obtain ⟨q, hq⟩ := hm.from_ p x hp
    exact h.dis q x hq hF
  · intro p x hp
    obtain ⟨q, hq⟩ := hm.from_ p x hp
    have := h.lt q x hq
    simpa using this
  · intro x hx
    have := h.flt x hx
    simpa using this
  · intro x hx
    refine hkeep x fun he => ?_
    subst he
    exact h.dis _ _ (h.blk b hb) hx

/-- The ghost behind a new block. -/
def Gh.zset (g : Gh) (b : Nat) (k : Option Nat) : Gh := ⟨fun c => if c = b then k else g.z c, g.bl, g.n⟩

theorem Ext.alloc (o : Obj) (k : Option Nat) : Ext g w (g.zset w.heap.size k) (w.alloc o) where
  os := rfl
  tape := rfl
  output := rfl
  size := by simp
  cell b o' v hv hs := by
    have hb : b < w.heap.size := cell_lt hv
    refine ⟨?_, ?_⟩
    · have : (w.alloc o).heap[b]? = w.heap[b]? := heap_alloc_old w o b hb
      rw [World.cell?_of_block (w := w) (a := ⟨b, o', none⟩) this]; exact hv
    · intro k' hk'
      have hne : b ≠ w.heap.size := by omega
      simp only [Gh.zset, hne, if_false] at hk'
      exact hs k' hk'
  nle := Nat.le_refl _
  bl _ _ := rfl
  froz b hb hz := by
    have hne : b ≠ w.heap.size := by omega
    exact ⟨by simp only [Gh.zset, hne, if_false]; exact hz, heap_alloc_old w o b hb⟩

theorem Ext.drew : Ext g w g w.drew := ⟨rfl, rfl, rfl, Nat.le_refl _, fun _ _ _ h k => ⟨h, k⟩, Nat.le_refl _, fun _ _ => rfl, fun _ _ h => ⟨h, rfl⟩⟩
theorem Inv.drew (h : Inv g w σ ρ tm own F) : Inv g w.drew σ ρ tm own F := h.world Ext.drew rfl fun _ _ _ => ⟨rfl, rfl⟩

/-- A new block that nobody knows yet. -/
theorem Inv.alloc (h : Inv g w σ ρ tm own F) (o : Obj) (k : Option Nat) :
    Inv (g.zset w.heap.size k) (w.alloc o) σ ρ tm own F ∧ Ext g w (g.zset w.heap.size k) (w.alloc o) ∧ Fr F g w (g.zset w.heap.size k) (w.alloc o) := by
  have hk : ∀ x, x < w.heap.size → (w.alloc o).heap[x]? = w.heap[x]? ∧ (g.zset w.heap.size k).z x = g.z x := by
    intro x hx
    have hne : x ≠ w.heap.size := by omega
    exact ⟨heap_alloc_old w o x hx, by simp only [Gh.zset, hne, if_false]⟩
  exact ⟨h.world (Ext.alloc o k) rfl fun p x hp => hk x (h.lt p x hp), Ext.alloc o k, fun x hx => hk x (h.flt x hx)⟩

def Gh.grow (g : Gh) (b : Nat) : Gh := ⟨g.z, fun c => if c = g.n then b else g.bl c, g.n + 1⟩
theorem Ext.grow (b : Nat) : Ext g w (g.grow b) w where
  os := rfl
  tape := rfl
  output := rfl
  size := Nat.le_refl _
  cell _ _ _ h k := ⟨h, k⟩
  nle := Nat.le_succ _
  bl c hc := by simp only [Gh.grow]; rw [if_neg (by omega)]
  froz _ _ h := ⟨h, rfl⟩

/-- A new box. -/
theorem Inv.push (h : Inv g w σ ρ tm own F) (cs : List Pv) (vs : Array Value) (el : TypeId) (hl : vs.size = cs.length) (hc : ∀ (j : Nat) x, cs[j]? = some x → ∃ v, vs[j]? = some v ∧ R g w x v) :
    ∃ g' own', Inv g' (w.alloc (.cells vs el)) (σ.push el cs) ρ tm own' F ∧ Ext g w g' (w.alloc (.cells vs el)) ∧ Fr F g w g' (w.alloc (.cells vs el)) ∧
      R g' (w.alloc (.cells vs el)) (.ptr σ.n 0) (.pointer (some ⟨w.heap.size, 0, none⟩)) ∧ g'.n = σ.n + 1 ∧ g'.bl σ.n = w.heap.size := by
  obtain ⟨h1, e1, f1⟩ := h.alloc (.cells vs el) (some 0)
  have e2 : Ext (g.zset w.heap.size (some 0)) (w.alloc (.cells vs el)) ((g.zset w.heap.size (some 0)).grow w.heap.size) (w.alloc (.cells vs el)) := Ext.grow _
  have hgn : g.n = σ.n := h.gn
  have hb : ∀ b, b < σ.n → ((g.zset w.heap.size (some 0)).grow w.heap.size).bl b = g.bl b := by
    intro b hb
    have hne : ¬ b = g.n := by omega
    simp [Gh.grow, Gh.zset, hne]
  refine ⟨(g.zset w.heap.size (some 0)).grow w.heap.size, fun p => if p = .b σ.n then some w.heap.size else match p with
    | .c b j => if b = σ.n then none else own (.c b j)
    | p => own p, ⟨?_, ?_, ?_, ?_, ?_, ?_, ?_, ?_⟩, e1.trans e2, f1.trans fun x _ => ⟨rfl, rfl⟩, ?_, ?_, ?_⟩
  · simp [Gh.grow, Gh.zset, St.push, hgn]
  · intro t ht
    simp only [reduceCtorEq, if_false]
    exact (h1.slot t ht).keep e2 fun _ _ => ⟨rfl, rfl⟩
  · intro b hbn
    by_cases hbb : b = σ.n
    · subst hbb
      have hbl : ((g.zset w.heap.size (some 0)).grow w.heap.size).bl σ.n = w.heap.size := by simp [Gh.grow, Gh.zset, hgn]
      rw [hbl]
      simp only [St.push, if_true]
      refine ⟨vs, el, heap_alloc_new w _, ⟨hl, rfl⟩, ?_, fun j x hj => ?_⟩
      · simp [Gh.grow, Gh.zset]
      · obtain ⟨v, hv, hr⟩ := hc j x hj
        exact ⟨v, hv, by simp only [reduceCtorEq, if_false]; exact .sh (hr.mono (e1.trans e2))⟩
    · have hbn' : b < σ.n := by simp only [St.push] at hbn; omega
      rw [hb b hbn']
      simp only [St.push, hbb, if_false, reduceCtorEq]
      exact (h1.box b hbn').keep e2 ⟨rfl, rfl⟩ fun _ _ _ => ⟨rfl, rfl⟩
  · intro b hbn
    by_cases hbb : b = σ.n
    · subst hbb
      simp [Gh.grow, Gh.zset, hgn]
    · have hbn' : b < σ.n := by simp only [St.push] at hbn; omega
      rw [hb b hbn', if_neg (by simpa using hbb)]
      exact h.blk b hbn'
  · have key : ∀ p x, (if p = .b σ.n then some w.heap.size else match p with
        | .c b j => if b = σ.n then none else own (.c b j)
        | p => own p) = some x → (p = .b σ.n ∧ x = w.heap.size) ∨ (p ≠ .b σ.n ∧ own p = some x) := by
      intro p x hp
      by_cases h1 : p = .b σ.n
      · rw [if_pos h1] at hp; cases hp; exact .inl ⟨h1, rfl⟩
      · rw [if_neg h1] at hp
        refine .inr ⟨h1, ?_⟩
        cases p with
        | c b j => simp only at hp; split at hp; cases hp; exact hp
        | s t => exact hp
        | b b => exact hp
    intro p q x hp hq
    rcases key p x hp with ⟨hp1, hp2⟩ | ⟨hp1, hp2⟩ <;> rcases key q x hq with ⟨hq1, hq2⟩ | ⟨hq1, hq2⟩
    · rw [hp1, hq1]
    · have := h.lt q x hq2; omega
    · have := h.lt p x hp2; omega
    · exact h.inj p q x hp2 hq2
  · intro p x hp
    by_cases h1 : p = .b σ.n
    · rw [if_pos h1] at hp; cases hp; intro hF; have := h.flt _ hF; omega
    · rw [if_neg h1] at hp
      cases p with
      | c b j => simp only at hp; split at hp; cases hp; exact h.dis _ x hp
      | s t => exact h.dis _ x hp
      | b b => exact h.dis _ x hp
  · intro p x hp
    by_cases h1 : p = .b σ.n
    · rw [if_pos h1] at hp; cases hp; simp
    · rw [if_neg h1] at hp
      have : x < w.heap.size := by
        cases p with
        | c b j => simp only at hp; split at hp; cases hp; exact h.lt _ x hp
        | s t => exact h.lt _ x hp
        | b b => exact h.lt _ x hp
      simp; omega
  · intro x hx
    have := h.flt x hx
    simp; omega
  · have hbl : ((g.zset w.heap.size (some 0)).grow w.heap.size).bl σ.n = w.heap.size := by simp [Gh.grow, Gh.zset, hgn]
    have := R.ptr (g := (g.zset w.heap.size (some 0)).grow w.heap.size) (w := w.alloc (.cells vs el)) σ.n 0 (by simp [Gh.grow, Gh.zset, hgn])
    rw [hbl] at this
    exact this
  · simp [Gh.grow, Gh.zset, hgn]
  · simp [Gh.grow, Gh.zset, hgn]

/-- A box is shutbed: written no more. -/
theorem Inv.shutb1 (h : Inv g w σ ρ tm own F) (b : Nat) (hb : b < σ.n) :
    Inv (g.zset (g.bl b) none) w ⟨σ.n, σ.m, fun c => if c = b then true else σ.ro c, σ.t, σ.k⟩ ρ tm own F ∧ Ext g w (g.zset (g.bl b) none) w ∧ Fr F g w (g.zset (g.bl b) none) w := by
  have e : Ext g w (g.zset (g.bl b) none) w := by
    refine ⟨rfl, rfl, rfl, Nat.le_refl _, fun b' o v hv hs => ⟨hv, fun k hk => ?_⟩, Nat.le_refl _, fun _ _ => rfl, fun b' _ hz => ⟨?_, rfl⟩⟩
    · simp only [Gh.zset] at hk
      split at hk
      · cases hk
      · exact hs k hk
    · simp only [Gh.zset]; split
      · rfl
      · exact hz
  have hne : ∀ p x, own p = some x → p ≠ .b b → (g.zset (g.bl b) none).z x = g.z x := by
    intro p x hp hpb
    have : x ≠ g.bl b := fun hx => by subst hx; exact hpb (h.inj p (.b b) _ hp (h.blk b hb))
    simp only [Gh.zset, this, if_false]
  refine ⟨⟨h.gn, ?_, ?_, h.blk, h.inj, h.dis, h.lt, h.flt⟩, e, ?_⟩
  · exact fun t ht => (h.slot t ht).keep e fun x hx => ⟨rfl, hne _ _ hx (by simp)⟩
  · intro b' hb'
    by_cases hbb : b' = b
    · subst hbb
      obtain ⟨vs, el, h1, h2, h3, h4⟩ := h.box b' hb'
      refine ⟨vs, el, h1, h2, by simp [Gh.zset], fun j x hj => ?_⟩
      obtain ⟨v, hv, hS⟩ := h4 j x hj
      exact ⟨v, hv, hS.keep e fun x hx => ⟨rfl, hne _ _ hx (by simp)⟩⟩
    · simp only [hbb, if_false]
      refine (h.box b' hb').keep e ⟨rfl, hne _ _ (h.blk b' hb') (by simpa using hbb)⟩ fun j x hx => ⟨rfl, hne _ _ hx (by simp)⟩
  · intro x hx
    refine ⟨rfl, ?_⟩
    have : x ≠ g.bl b := fun he => by subst he; exact h.dis _ _ (h.blk b hb) hx
    simp only [Gh.zset, this, if_false]

end Gx

/- Part Gx4. -/
/- The operations whose value hangs on the temporaries alone: what the machine makes of them. -/
namespace Gx
open Go

variable {P : Program}

mutual
theorem pvOf_R (g : Gh) (w : World) : (v : Value) → (x : Pv) → pvOf v = some x → R g w x v
  | .bool b, x, h => by simp only [pvOf, Option.some.injEq] at h; subst h; exact .bool b
  | .int k n, x, h => by simp only [pvOf, Option.some.injEq] at h; subst h; exact .int k n
  | .string s, x, h => by
    simp only [pvOf] at h
    split at h
    · cases h; exact .str _ s rfl (by omega)
    · cases h
  | .pointer none, x, h => by simp only [pvOf, Option.some.injEq] at h; subst h; exact .nilp
  | .slice none 0 0, x, h => by simp only [pvOf, Option.some.injEq] at h; subst h; exact .slnil true
  | .nilFunc, x, h => by simp only [pvOf, Option.some.injEq] at h; subst h; exact .nilf
  | .nilIface, x, h => by simp only [pvOf, Option.some.injEq] at h; subst h; exact .nili
  | .func (.func f) ⟨[]⟩ ⟨[]⟩, x, h => by
    simp only [pvOf] at h
    split at h
    · rename_i hlt
      cases h
      exact .clo f [] [] _ _ rfl rfl (fun i x v hx _ => by simp at hx) (fun i x v hx _ => by simp at hx) hlt
    · cases h
  | .agg ⟨cs⟩, x, h => by
    simp only [pvOf, Option.map_eq_some_iff] at h
    obtain ⟨xs, hxs, rfl⟩ := h
    obtain ⟨h1, h2⟩ := pvOfs_R g w cs xs hxs
    exact .agg xs _ (by simpa using h1) fun i x v hx hv => h2 i x v hx (by simpa using hv)
  | .tuple ⟨[]⟩, x, h => by simp only [pvOf, Option.some.injEq] at h; subst h; exact .un
  | .float _ _, x, h => by simp [pvOf] at h
  | .complex _ _ _, x, h => by simp [pvOf] at h
  | .pointer (some _), x, h => by simp [pvOf] at h
  | .slice (some _) _ _, x, h => by simp [pvOf] at h
  | .slice none (_ + 1) _, x, h => by simp [pvOf] at h
  | .slice none 0 (_ + 1), x, h => by simp [pvOf] at h
  | .map _, x, h => by simp [pvOf] at h
  | .chan _, x, h => by simp [pvOf] at h
  | .func (.func f) ⟨[]⟩ ⟨_ :: _⟩, x, h => by simp [pvOf] at h
  | .func (.func f) ⟨_ :: _⟩ _, x, h => by simp [pvOf] at h
  | .func (.method _) _ _, x, h => by simp [pvOf] at h
  | .func (.methodOf _ _) _ _, x, h => by simp [pvOf] at h
  | .func (.via _ _ _ _) _ _, x, h => by simp [pvOf] at h
  | .func (.yield _) _ _, x, h => by simp [pvOf] at h
  | .iface _ _, x, h => by simp [pvOf] at h
  | .tuple ⟨_ :: _⟩, x, h => by simp [pvOf] at h
theorem pvOfs_R (g : Gh) (w : World) : (vs : List Value) → (xs : List Pv) → pvOfs vs = some xs → xs.length = vs.length ∧ ∀ (i : Nat) x v, xs[i]? = some x → vs[i]? = some v → R g w x v
  | [], xs, h => by simp only [pvOfs, Option.some.injEq] at h; subst h; exact ⟨rfl, fun i x v hx _ => by simp at hx⟩
  | v :: vs, xs, h => by
    simp only [pvOfs] at h
    split at h
    · rename_i y ys hy hys
      cases h
      have h1 := pvOf_R g w v y hy
      obtain ⟨h2, h3⟩ := pvOfs_R g w vs ys hys
      refine ⟨by simp [h2], fun i x u hx hu => ?_⟩
      cases i with
      | zero => simp only [List.getElem?_cons_zero, Option.some.injEq] at hx hu; subst hx; subst hu; exact h1
      | succ i => simp only [List.getElem?_cons_succ] at hx hu; exact h3 i x u hx hu
    · cases h
end

variable {g : Gh} {w : World} {σ : St} {ρ : Env} {a : Act} {own : Pl → Option Nat} {F : Nat → Prop} {nt : Nat}

theorem od_S (h : Inv g w σ ρ a.tmps own F) (hn : a.tmps.size = nt) {x : Operand} {y : Od} (ho : odOf nt x = some y) : ∃ o, S g w (y.ev ρ) (a.eval x) o := by
  cases x with
  | tmp t =>
    simp only [odOf] at ho
    by_cases hlt : t < nt
    · rw [if_pos hlt] at ho
      cases ho
      exact ⟨_, h.slot t (by rw [hn]; exact hlt)⟩
    · rw [if_neg hlt] at ho
      cases ho
  | const v =>
    simp only [odOf, Option.map_eq_some_iff] at ho
    obtain ⟨z, hz, rfl⟩ := ho
    exact ⟨none, .sh (pvOf_R g w v z hz)⟩
  | global _ => simp [odOf] at ho
  | func f =>
    simp only [odOf] at ho
    split at ho
    · rename_i hlt
      cases ho
      exact ⟨none, .sh (.clo f [] [] _ _ rfl rfl (fun i x v hx _ => by simp at hx) (fun i x v hx _ => by simp at hx) hlt)⟩
    · cases ho

theorem od_R (h : Inv g w σ ρ a.tmps own F) (hn : a.tmps.size = nt) {x : Operand} {y : Od} (ho : odOf nt x = some y) : R g w (y.ev ρ).shr (a.eval x) := by
  obtain ⟨o, hs⟩ := od_S h hn ho
  exact hs.shr

theorem od_frz (h : Inv g w σ ρ a.tmps own F) (hn : a.tmps.size = nt) {x : Operand} {y : Od} (ho : odOf nt x = some y) : R g w (y.ev ρ).frz (a.eval x) := by
  obtain ⟨o, hs⟩ := od_S h hn ho
  exact hs.frz

/-- What an operand that is no slice holds. -/
theorem od_plain (h : Inv g w σ ρ a.tmps own F) (hn : a.tmps.size = nt) {x : Operand} {y : Od} (ho : odOf nt x = some y) (hp : ∀ o xs, y.ev ρ ≠ .sl o xs) : R g w (y.ev ρ) (a.eval x) := by
  have := od_R h hn ho
  cases hy : y.ev ρ <;> rw [hy] at this <;> try exact this
  exact absurd hy (hp _ _)

theorem R.int_inv {k : IntKind} {n : Int} {v : Value} (h : R g w (.int k n) v) : v = .int k n := by cases h; rfl
theorem R.bool_inv {b : Bool} {v : Value} (h : R g w (.bool b) v) : v = .bool b := by cases h; rfl
theorem R.str_inv {l : List UInt8} {v : Value} (h : R g w (.str l) v) : ∃ s : ByteArray, v = .string s ∧ s.data.toList = l ∧ l.length < 2 ^ 63 := by cases h; exact ⟨_, rfl, by assumption, by assumption⟩
theorem R.mkstr {l : List UInt8} (hl : l.length < 2 ^ 63) : R g w (.str l) (.string ⟨l.toArray⟩) := .str l _ (by simp) hl

/-! ### Operators -/

theorem eqGuard_run (w : World) (op : BinOp) (t : TypeId) (x y : Operand) {a b : Value} (h : ¬ (a = .nilIface ∧ b = .nilIface)) (h2 : ∀ xs, a ≠ .agg xs) : (eqGuard op t x y a b).run P w = .ok () w := by
  cases op <;> simp only [eqGuard] <;> (try rfl) <;> (cases a <;> cases b <;> first | rfl | exact absurd ⟨rfl, rfl⟩ h | exact absurd rfl (h2 _))

theorem size_data (s : ByteArray) : s.size = s.data.toList.length := (Array.length_toList (xs := s.data)).symm

theorem str_eq {a b : ByteArray} : (a.toList == b.toList) = decide (a.data.toList = b.data.toList) := by
  rw [ByteArray.toList_eq, ByteArray.toList_eq]
  by_cases h : a.data.toList = b.data.toList
  · rw [h]; simp
  · rw [decide_eq_false h]; simpa using h

theorem bop_run {op : BinOp} {x y v : Pv} {a b : Value} (t : TypeId) (hx : R g w x a) (hy : R g w y b) (h : bop op x y = some v) :
    ∃ c, (∀ w', (binOp op t a b).run P w' = .ok c w') ∧ ∀ g w, R g w v c := by
  cases hx <;> cases hy <;> simp only [bop] at h <;> (try (cases h; done))
  case int.int k n k' m =>
    cases op <;> simp only at h
    case shl =>
      split at h
      · cases h
        rename_i h0
        have : ¬ m < 0 := by omega
        exact ⟨_, fun w' => by simp [binOp, Op.shift, this], fun g w => .int _ _⟩
      · cases h
    case shr =>
      split at h
      · cases h
        rename_i h0
        have : ¬ m < 0 := by omega
        exact ⟨_, fun w' => by simp [binOp, Op.shift, this], fun g w => .int _ _⟩
      · cases h
    case quo =>
      split at h
      · rename_i hk
        subst hk
        split at h
        · cases h
        · rename_i hm
          cases h
          exact ⟨_, fun w' => by simp [binOp, Op.intDiv, hm], fun g w => .int _ _⟩
      · cases h
    case rem =>
      split at h
      · rename_i hk
        subst hk
        split at h
        · cases h
        · rename_i hm
          cases h
          exact ⟨_, fun w' => by simp [binOp, Op.intDiv, hm], fun g w => .int _ _⟩
      · cases h
    case eql =>
      split at h
      · rename_i hk
        subst hk
        cases h
        refine ⟨.bool (decide (n = m)), fun w' => ?_, fun g w => .bool _⟩
        simp only [binOp, Op.intCmp, ne_eq, not_true_eq_false, if_false]
        refine congrArg (fun b => Result.ok (Value.bool b) w') ?_
        rw [Bool.eq_iff_iff]
        simp
      · cases h
    case neq =>
      split at h
      · rename_i hk
        subst hk
        cases h
        refine ⟨.bool (decide (n ≠ m)), fun w' => ?_, fun g w => .bool _⟩
        simp only [binOp, Op.intCmp, ne_eq, not_true_eq_false, if_false]
        refine congrArg (fun b => Result.ok (Value.bool b) w') ?_
        rw [Bool.eq_iff_iff]
        simp
      · cases h
    all_goals
      split at h
      · rename_i hk
        subst hk
        cases h
        first
        | exact ⟨_, fun w' => by simp only [binOp, Op.intArith, Op.intBits, ne_eq, not_true_eq_false, if_false]; rfl, fun g w => .int _ _⟩
        | exact ⟨_, fun w' => by simp only [binOp, Op.intCmp, ne_eq, not_true_eq_false, if_false]; rfl, fun g w => .bool _⟩
      · cases h
  case str.str l1 s1 e1 h1 l2 s2 e2 h2 =>
    subst e1
    subst e2
    cases op <;> simp only at h <;> (try (cases h; done))
    case add =>
      split at h
      · rename_i hl
        cases h
        have hs : ¬ (((s1.size + s2.size : Nat) : Int) > IntKind.i64.max) := by
          rw [size_data, size_data]
          have : IntKind.i64.max = 9223372036854775807 := by decide
          omega
        refine ⟨.string (s1 ++ s2), fun w' => by simp only [binOp, Op.stringOp, hs, if_false]; rfl, fun g w => .str _ _ ?_ ?_⟩
        · simp
        · simpa using hl
      · cases h
    case eql =>
      cases h
      exact ⟨_, fun w' => by simp only [binOp, Op.stringOp, str_eq]; rfl, fun g w => .bool _⟩
    case neq =>
      cases h
      exact ⟨_, fun w' => by simp only [binOp, Op.stringOp, str_eq]; rfl, fun g w => by rw [← decide_not]; exact .bool _⟩

theorem beq_run {isB : Bool} {x y : Pv} {v : Bool} {a b : Value} (t : TypeId) (ht : if isB then P.underlying t = some .bool else ∃ e, P.underlying t = some (.pointer e))
    (hx : R g w x a) (hy : R g w y b) (h : beq isB x y = some v) : (∀ w', (Op.equal t a b).run P w' = .ok v w') := by
  intro w'
  show (Op.equalIn (9999 + 1) t a b).run P w' = .ok v w'
  cases isB with
  | true =>
    simp only [if_true] at ht
    cases hx <;> cases hy <;> simp only [beq] at h <;> (try (cases h; done))
    case bool.bool p q =>
      simp only [if_true, Option.some.injEq] at h
      subst h
      rw [run_equalIn_bool w' 9999 t p q ht]
      refine congrArg (fun b => Result.ok b w') ?_
      rw [Bool.eq_iff_iff]
      simp
  | false =>
    simp only [Bool.false_eq_true, if_false] at ht
    obtain ⟨e, ht⟩ := ht
    cases hx <;> cases hy <;> simp only [beq] at h <;> (try (cases h; done))
    all_goals
      simp only [Bool.false_eq_true, if_false, Option.some.injEq] at h
      subst h
      rw [Op.equalIn]
      simp only [Sem.run_bind, run_underlying ht, Result.andThen_ok]
      rfl

end Gx

/- Part Gx5. -/
/- Cells of aggregates, slices' bounds, literals: the runs of the pure operations. -/
namespace Gx
open Go hiding sizeOf

variable {P : Program} {g : Gh} {w : World}

theorem run_sizeT {t : TypeId} {n : Nat} (h : sizeT P t = some n) (w : World) : (Go.sizeOf t).run P w = .ok n w := by
  unfold sizeT at h
  cases hi : P.info? t with
  | none => rw [hi] at h; cases h
  | some i =>
    rw [hi] at h
    simp only [Option.map_some, Option.some.injEq] at h
    subst h
    simp [Go.sizeOf, typeInfo, hi]

theorem run_isAgg {t : TypeId} {ag : Option Nat} (h : agOf P t = some ag) (w : World) : (isAgg t).run P w = .ok ag.isSome w ∧ ∀ n, ag = some n → (Go.sizeOf t).run P w = .ok n w := by
  unfold agOf at h
  cases hu : P.underlying t with
  | none => rw [hu] at h; cases hs : sizeT P t <;> rw [hs] at h <;> cases h
  | some u =>
    cases hs : sizeT P t with
    | none => rw [hu, hs] at h; cases u <;> cases h
    | some n =>
      rw [hu, hs] at h
      have h2 := run_sizeT hs w
      cases u <;> cases h <;> refine ⟨by simp [isAgg, run_underlying hu], fun n hn => ?_⟩ <;> cases hn <;> exact h2

theorem agg_part {cs : List Pv} {vs : Array Value} (hl : cs.length = vs.size) (h : ∀ (i : Nat) x v, cs[i]? = some x → vs[i]? = some v → R g w x v) (off n : Nat) :
    R g w (.agg (((cs.drop off).take n).map Pv.shr)) (.agg (vs.extract off (off + n))) := by
  refine .agg _ _ ?_ fun i x v hx hv => ?_
  · simp only [List.length_map, List.length_take, List.length_drop, Array.size_extract]
    omega
  · rw [List.getElem?_map, List.getElem?_take, List.getElem?_drop] at hx
    split at hx
    · cases hc : cs[off + i]? with
      | none => rw [hc] at hx; cases hx
      | some y =>
        rw [hc] at hx
        simp only [Option.map_some, Option.some.injEq] at hx
        subst hx
        refine (h (off + i) y v hc ?_).shr
        rw [Array.getElem?_extract] at hv
        split at hv
        · exact hv
        · cases hv
    · cases hx

theorem run_part {t : TypeId} {ag : Option Nat} (ht : agOf P t = some ag) {cs : List Pv} {vs : Array Value} (hl : cs.length = vs.size)
    (h : ∀ (i : Nat) x v, cs[i]? = some x → vs[i]? = some v → R g w x v) {off : Nat} {v : Pv} (ho : offs cs off ag = some v) :
    ∃ u, (∀ w', (part t vs off).run P w' = .ok u w') ∧ R g w v u := by
  have h1 := fun w' => (run_isAgg ht w').1
  have h2 := fun w' => (run_isAgg ht w').2
  cases ag with
  | some n =>
    simp only [offs] at ho
    split at ho
    · cases ho
      exact ⟨_, fun w' => by simp [part, h1 w', h2 w' n rfl], agg_part hl h off n⟩
    · cases ho
  | none =>
    simp only [offs] at ho
    cases hc : cs[off]? with
    | none => rw [hc] at ho; cases ho
    | some y =>
      rw [hc] at ho
      simp only [Option.map_some, Option.some.injEq] at ho
      subst ho
      have hlt : off < vs.size := by have := (List.getElem?_eq_some_iff.1 hc).1; omega
      refine ⟨vs[off], fun w' => ?_, (h off y _ hc (by simp [hlt])).shr⟩
      simp [part, h1 w', hlt]

/-! ### Struct equality -/

theorem ceqs_length : ∀ {ks : List Nat} {xs ys : List Pv} {b : Bool}, ceqs ks xs ys = some b → xs.length = ks.length ∧ ys.length = ks.length
  | [], [], [], _, _ => ⟨rfl, rfl⟩
  | [], _ :: _, _, _, h => by simp [ceqs] at h
  | [], [], _ :: _, _, h => by simp [ceqs] at h
  | _ :: _, [], _, _, h => by simp [ceqs] at h
  | _ :: _, _ :: _, [], _, h => by simp [ceqs] at h
  | k :: ks, x :: xs, y :: ys, b, h => by
    simp only [ceqs] at h
    split at h
    · rename_i h1 h2
      have := ceqs_length h2
      simp [this]
    · cases h

theorem ceqs_append : ∀ {ks ls : List Nat} {xs ys : List Pv} {b : Bool}, ceqs (ks ++ ls) xs ys = some b →
    ∃ c d, ceqs ks (xs.take ks.length) (ys.take ks.length) = some c ∧ ceqs ls (xs.drop ks.length) (ys.drop ks.length) = some d ∧ b = (c && d)
  | [], ls, xs, ys, b, h => ⟨true, b, by simp [ceqs], by simpa using h, by simp⟩
  | k :: ks, ls, [], ys, b, h => by simp [ceqs] at h
  | k :: ks, ls, x :: xs, [], b, h => by simp [ceqs] at h
  | k :: ks, ls, x :: xs, y :: ys, b, h => by
    simp only [List.cons_append, ceqs] at h
    split at h
    · rename_i p q hp hq
      cases h
      obtain ⟨c, d, hc, hd, rfl⟩ := ceqs_append hq
      exact ⟨p && c, d, by simp [ceqs, hp, hc], by simpa using hd, by simp [Bool.and_assoc]⟩
    · cases h

/-- The values of a row of cells, and what the row says of them. -/
def RL (g : Gh) (w : World) (cs : List Pv) (vs : Array Value) : Prop := cs.length = vs.size ∧ ∀ (i : Nat) x v, cs[i]? = some x → vs[i]? = some v → R g w x v

theorem RL.extract {cs : List Pv} {vs : Array Value} (h : RL g w cs vs) (o n : Nat) : RL g w ((cs.drop o).take n) (vs.extract o (o + n)) := by
  refine ⟨?_, fun i x v hx hv => ?_⟩
  · simp only [List.length_take, List.length_drop, Array.size_extract, h.1]; omega
  · rw [List.getElem?_take, List.getElem?_drop] at hx
    rw [Array.getElem?_extract] at hv
    split at hx
    · split at hv
      · exact h.2 _ x v hx hv
      · cases hv
    · cases hx

/-- A value of a flat type: its cells. -/
def IsVal (P : Program) (t : TypeId) (us : Array Value) (u : Value) : Prop :=
  match P.underlying t with
  | some (.struct _) => u = .agg us
  | _ => us = #[u]

theorem flat_size : ∀ {d : Nat} {t : TypeId} {ks : List Nat}, flatT P d t = some ks → sizeT P t = some ks.length
  | 0, _, _, h => by simp [flatT] at h
  | d + 1, t, ks, h => by
    rw [flatT] at h
    split at h
    · split at h
      · cases h; assumption
      · cases h
    · split at h
      · cases h; assumption
      · cases h
    · split at h
      · cases h; assumption
      · cases h
    · split at h
      · cases h
      · split at h
        · split at h
          · cases h; assumption
          · cases h
        · cases h
    · cases h

theorem run_part_flat {d : Nat} {t : TypeId} {ks : List Nat} (h : flatT P d t = some ks) (us : Array Value) (o : Nat) (ho : o + ks.length ≤ us.size) (w' : World) :
    ∃ u, (part t us o).run P w' = .ok u w' ∧ IsVal P t (us.extract o (o + ks.length)) u := by
  have hs := run_sizeT (flat_size h) w'
  cases d with
  | zero => simp [flatT] at h
  | succ d =>
    rw [flatT] at h
    have one : ks.length = 1 → ∃ u, us[o]? = some u ∧ us.extract o (o + ks.length) = #[u] := by
      intro h1
      have hlt : o < us.size := by omega
      refine ⟨us[o], by simp [hlt], ?_⟩
      rw [h1]
      apply Array.ext
      · simp; omega
      · intro i h1 h2
        simp only [Array.size_extract] at h1
        obtain rfl : i = 0 := by omega
        simp
    split at h
    · rename_i hu
      split at h
      · cases h
        obtain ⟨u, h1, h2⟩ := one rfl
        exact ⟨u, by simp [part, isAgg, run_underlying hu, h1], by simp only [IsVal, hu]; exact h2⟩
      · cases h
    · rename_i hu
      split at h
      · cases h
        obtain ⟨u, h1, h2⟩ := one rfl
        exact ⟨u, by simp [part, isAgg, run_underlying hu, h1], by simp only [IsVal, hu]; exact h2⟩
      · cases h
    · rename_i hu
      split at h
      · cases h
        obtain ⟨u, h1, h2⟩ := one rfl
        exact ⟨u, by simp [part, isAgg, run_underlying hu, h1], by simp only [IsVal, hu]; exact h2⟩
      · cases h
    · rename_i fs hu
      exact ⟨.agg (us.extract o (o + ks.length)), by simp [part, isAgg, run_underlying hu, hs], by simp only [IsVal, hu]⟩
    · cases h

theorem ceq_run {k : Nat} {x y : Pv} {b : Bool} {u v : Value} (h : ceq k x y = some b) (hx : R g w x u) (hy : R g w y v) (t : TypeId) (D : Nat) (w' : World)
    (ht : (k = 1 → ∃ i, P.underlying t = some (.int i)) ∧ (k = 2 → P.underlying t = some .string) ∧ (k = 3 → P.underlying t = some .bool)) : (Op.equalIn (D + 1) t u v).run P w' = .ok b w' := by
  unfold ceq at h
  split at h
  · have e1 := hx.int_inv
    have e2 := hy.int_inv
    subst e1
    subst e2
    split at h
    · rename_i hk
      subst hk
      cases h
      obtain ⟨i, hi⟩ := ht.1 rfl
      rw [run_equalIn_int w' D t _ _ _ _ hi]
      refine congrArg (fun b => Result.ok b w') ?_
      rw [Bool.eq_iff_iff]; simp
    · cases h
  · obtain ⟨s1, rfl, e1, _⟩ := hx.str_inv
    obtain ⟨s2, rfl, e2, _⟩ := hy.str_inv
    cases h
    rw [run_equalIn_string w' D t _ _ (ht.2.1 rfl), str_eq, e1, e2]
  · have e1 := hx.bool_inv
    have e2 := hy.bool_inv
    subst e1
    subst e2
    cases h
    rw [run_equalIn_bool w' D t _ _ (ht.2.2 rfl)]
    refine congrArg (fun b => Result.ok b w') ?_
    rw [Bool.eq_iff_iff]; simp
  · cases h

theorem flat_run (w' : World) : ∀ (d : Nat) (t : TypeId) (ks : List Nat), flatT P d t = some ks → ∀ (xs ys : List Pv) (us vs : Array Value) (b : Bool), RL g w xs us → RL g w ys vs → ceqs ks xs ys = some b →
    ∀ (u v : Value), IsVal P t us u → IsVal P t vs v → ∀ D, d ≤ D → (Op.equalIn D t u v).run P w' = .ok b w' := by
  intro d
  induction d with
  | zero => intro t ks h; simp [flatT] at h
  | succ d ih =>
    intro t ks h xs ys us vs b hx hy hc u v hu hv D hD
    obtain ⟨D, rfl⟩ : ∃ E, D = E + 1 := ⟨D - 1, by omega⟩
    rw [flatT] at h
    have one : ∀ k, ks = [k] → us = #[u] → vs = #[v] → ∃ x y, ceq k x y = some b ∧ R g w x u ∧ R g w y v := by
      intro k hk h1 h2
      subst hk
      subst h1
      subst h2
      obtain ⟨l1, l2⟩ := ceqs_length hc
      obtain ⟨x, rfl⟩ := List.length_eq_one_iff.1 l1
      obtain ⟨y, rfl⟩ := List.length_eq_one_iff.1 l2
      refine ⟨x, y, ?_, hx.2 0 x u rfl rfl, hy.2 0 y v rfl rfl⟩
      simp only [ceqs] at hc
      split at hc
      · rename_i p q hp hq
        cases hq
        simp only [Option.some.injEq, Bool.and_true] at hc
        subst hc
        exact hp
      · cases hc
    split at h
    · rename_i i hut
      simp only [IsVal, hut] at hu hv
      split at h
      · cases h
        obtain ⟨x, y, h1, h2, h3⟩ := one 1 rfl hu hv
        exact ceq_run h1 h2 h3 t D w' ⟨fun _ => ⟨i, hut⟩, by simp, by simp⟩
      · cases h
    · rename_i hut
      simp only [IsVal, hut] at hu hv
      split at h
      · cases h
        obtain ⟨x, y, h1, h2, h3⟩ := one 2 rfl hu hv
        exact ceq_run h1 h2 h3 t D w' ⟨by simp, fun _ => hut, by simp⟩
      · cases h
    · rename_i hut
      simp only [IsVal, hut] at hu hv
      split at h
      · cases h
        obtain ⟨x, y, h1, h2, h3⟩ := one 3 rfl hu hv
        exact ceq_run h1 h2 h3 t D w' ⟨by simp, by simp, fun _ => hut⟩
      · cases h
    · rename_i fs hut
      simp only [IsVal, hut] at hu hv
      subst hu
      subst hv
      split at h
      · cases h
      · rename_i hst
        split at h
        · rename_i ls hls
          split at h
          · cases h
            have hf : P.fieldsOf t = fs := by simp [Program.fieldsOf, hut]
            rw [run_equalIn_struct w' D t us vs (by rw [hf]; exact hut) (by simpa using hst), hf]
            -- the fields, one behind the other
            have key : ∀ (fl : List Field) (n : Nat) (ks : List Nat) (b : Bool), flatT.flatGo (flatT P d) fl n = some ks → ceqs ks (xs.drop n) (ys.drop n) = some b →
                (Op.eqFields D us vs fl).run P w' = .ok b w' := by
              intro fl
              induction fl with
              | nil =>
                intro n ks b h1 h2
                simp only [flatT.flatGo, Option.some.injEq] at h1
                subst h1
                cases hxd : xs.drop n <;> cases hyd : ys.drop n <;> rw [hxd, hyd] at h2 <;> simp only [ceqs] at h2 <;> cases h2
                simp [Op.eqFields]
              | cons f fl ihf =>
                intro n ks b h1 h2
                simp only [flatT.flatGo] at h1
                split at h1
                · cases h1
                · rename_i hnm
                  split at h1
                  · rename_i hoff
                    split at h1
                    · cases h1
                    · rename_i k0 ks0 hk1
                      generalize hkk : k0 :: ks0 = k1 at hk1 h1
                      have hpos : 0 < k1.length := by rw [← hkk]; simp
                      split at h1
                      · rename_i k2 hk2
                        cases h1
                        obtain ⟨lx, ly⟩ := ceqs_length h2
                        obtain ⟨c, e, hc1, hc2, rfl⟩ := ceqs_append h2
                        simp only [List.length_append, List.length_drop] at lx ly
                        rw [List.drop_drop] at hc2
                        rw [List.drop_drop] at hc2
                        have hux := hx.1
                        have hvy := hy.1
                        obtain ⟨p1, hp1, hq1⟩ := run_part_flat hk1 us f.offset (by omega) w'
                        obtain ⟨p2, hp2, hq2⟩ := run_part_flat hk1 vs f.offset (by omega) w'
                        rw [hoff] at hp1 hq1 hp2 hq2
                        have heq := ih f.type k1 hk1 _ _ _ _ c (hx.extract n k1.length) (hy.extract n k1.length) hc1 p1 p2 hq1 hq2 D (by omega)
                        simp only [Op.eqFields, hnm, ne_eq, not_false_eq_true, if_true, Sem.run_bind, hoff, hp1, hp2, heq, Result.andThen_ok]
                        cases c
                        · simp
                        · have hrest := ihf (n + k1.length) k2 e hk2 hc2
                          simp [hrest]
                      · cases h1
                    · cases h1
                  · cases h1
            exact key fs.toList 0 ks b hls (by simpa using hc)
          · cases h
        · cases h
    · cases h

end Gx

/- Part Gx6. -/
/- Literals of structs, cuts of texts and slices. -/
namespace Gx
open Go hiding sizeOf

variable {P : Program} {g : Gh} {w : World}

theorem fold_set (off : Nat) : ∀ (l : List Value) (k : Nat) (cells : Array Value), off + k + l.length ≤ cells.size →
    ((l.zipIdx k).foldl (fun (cs : Array Value) (p : Value × Nat) => cs.setIfInBounds (off + p.2) p.1) cells) = (cells.toList.take (off + k) ++ l ++ cells.toList.drop (off + k + l.length)).toArray
  | [], k, cells, _ => by simp
  | v :: l, k, cells, h => by
    simp only [List.length_cons] at h
    have hs : off + k < cells.toList.length := by simp; omega
    rw [List.zipIdx_cons, List.foldl_cons, fold_set off l (k + 1) (cells.setIfInBounds (off + k) v) (by simp; omega)]
    congr 1
    simp only [Array.toList_setIfInBounds, List.length_cons]
    have hle : off + k + (l.length + 1) ≤ cells.toList.length := by simp; omega
    have := list_seg_step cells.toList (off + k) v l hle
    rw [show off + (k + 1) = off + k + 1 by omega, show off + k + 1 + l.length = off + k + 1 + l.length by rfl]
    simpa using this

theorem RL.fill {z : List Pv} {zv : Array Value} (h : RL g w z zv) {x : Pv} {v : Value} (hx : x.cells.length = v.cells.size ∧ ∀ (j : Nat) y, x.cells[j]? = some y → ∃ u, v.cells[j]? = some u ∧ R g w y u)
    {o : Nat} (ho : o + x.cells.length ≤ z.length) : RL g w (z.take o ++ x.cells ++ z.drop (o + x.cells.length)) (zv.toList.take o ++ v.cells.toList ++ zv.toList.drop (o + x.cells.length)).toArray := by
  have hzl : z.length = zv.toList.length := by simpa using h.1
  have hxl : x.cells.length = v.cells.toList.length := by simpa using hx.1
  have hzs := h.1
  have hxs := hx.1
  refine ⟨by simp; omega, fun i a b ha hb => ?_⟩
  simp only [List.getElem?_toArray] at hb
  rw [List.append_assoc] at ha hb
  by_cases h1 : i < o
  · rw [List.getElem?_append_left (by simp; omega)] at ha
    rw [List.getElem?_append_left (by simp at hzl ⊢; omega)] at hb
    rw [List.getElem?_take_of_lt h1] at ha hb
    exact h.2 i a b ha (by simpa using hb)
  · rw [List.getElem?_append_right (by simp; omega)] at ha
    rw [List.getElem?_append_right (by simp at hzl ⊢; omega)] at hb
    have e1 : (z.take o).length = o := by simp; omega
    have e2 : (zv.toList.take o).length = o := by simp at hzl ⊢; omega
    rw [e1] at ha
    rw [e2] at hb
    by_cases h2 : i - o < x.cells.length
    · rw [List.getElem?_append_left h2] at ha
      rw [List.getElem?_append_left (by omega)] at hb
      obtain ⟨u, hu, hr⟩ := hx.2 _ a ha
      have : v.cells[i - o]? = some b := by simpa using hb
      rw [this] at hu
      cases hu
      exact hr
    · rw [List.getElem?_append_right (by omega)] at ha
      rw [List.getElem?_append_right (by omega)] at hb
      rw [List.getElem?_drop] at ha hb
      rw [← hxl] at hb
      exact h.2 _ a b ha (by simpa using hb)

theorem fill_run (place : Nat → Option (Nat × Nat)) : ∀ (ps : List (Nat × Value)) (qs : List (Nat × Nat × Pv)) (z : List Pv) (zv : Array Value) (cs : List Pv), RL g w z zv →
    ps.length = qs.length → (∀ (i : Nat) p q, ps[i]? = some p → qs[i]? = some q → place p.1 = some (q.1, q.2.1) ∧ R g w q.2.2 p.2) → fillAt z qs = some cs →
    ∃ cv, Instr.fill place zv ps = some cv ∧ RL g w cs cv
  | [], [], z, zv, cs, hz, _, _, h => by simp only [fillAt, Option.some.injEq] at h; subst h; exact ⟨zv, rfl, hz⟩
  | [], _ :: _, _, _, _, _, hl, _, _ => by simp at hl
  | _ :: _, [], _, _, _, _, hl, _, _ => by simp at hl
  | (i, v) :: ps, (o, s, x) :: qs, z, zv, cs, hz, hl, hp, h => by
    obtain ⟨h1, h2⟩ := hp 0 _ _ rfl rfl
    simp only at h1 h2
    have hx := h2.cells
    simp only [fillAt] at h
    split at h
    · rename_i hc
      obtain ⟨rfl, hc2⟩ := hc
      have hzl := hz.1
      have hxl := hx.1
      have hnext := hz.fill hx hc2
      obtain ⟨cv, h4, h5⟩ := fill_run place ps qs _ _ cs hnext (by simpa using hl) (fun j p q hj hq => hp (j + 1) p q (by simpa using hj) (by simpa using hq)) h
      refine ⟨cv, ?_, h5⟩
      simp only [Instr.fill, h1]
      rw [if_neg (by simp; omega)]
      have hf := fold_set o v.cells.toList 0 zv (by simp; omega)
      simp only [Nat.add_zero, Array.length_toList] at hf
      have he : (v.cells.zipIdx.foldl (fun (cs : Array Value) (p : Value × Nat) => cs.setIfInBounds (o + p.2) p.1) zv) = ((v.cells.toList.zipIdx).foldl (fun (cs : Array Value) (p : Value × Nat) => cs.setIfInBounds (o + p.2) p.1) zv) := by
        rw [← Array.foldl_toList, Array.toList_zipIdx]
      rw [hxl] at h4
      have : (v.cells.zipIdx.foldl (fun cs (x : Value × Nat) => match x with | (c, j) => cs.setIfInBounds (o + j) c) zv) = (zv.toList.take o ++ v.cells.toList ++ zv.toList.drop (o + v.cells.size)).toArray := by
        rw [← hf, ← he]
      rw [this]
      exact h4
    · cases h

/-- The zero value's cells. -/
theorem zeroOf_RL {t : TypeId} {z : List Pv} (h : zeroOf P t = some z) (g : Gh) (w : World) : ∃ i zv, P.info? t = some i ∧ i.zero = some zv ∧ RL g w z zv.cells := by
  unfold zeroOf at h
  cases hi : P.info? t with
  | none => rw [hi] at h; cases h
  | some i =>
    rw [hi] at h
    cases hz : i.zero with
    | none => simp only [hz] at h; cases h
    | some zv =>
      simp only [hz] at h
      obtain ⟨h1, h2⟩ := pvOfs_R g w zv.cells.toList z h
      exact ⟨i, zv, rfl, hz, by simpa using h1, fun i x v hx hv => h2 i x v hx (by simpa using hv)⟩

/-! ### Cuts -/

theorem bound_run {n r : Nat} {x : Pv} {v : Value} (hx : R g w x v) (code : BoundsCode) (h : cutAt n (some x) 0 = some r) (w' : World) : (Instr.sliceBound v n code).run P w' = .ok r w' ∧ r ≤ n := by
  cases hx <;> simp only [cutAt] at h <;> (try (cases h; done))
  case int k i =>
    split at h
    · rename_i hc
      cases h
      refine ⟨?_, by omega⟩
      simp only [Instr.sliceBound, Sem.run_bind, asIntOf]
      simp [hc.1, hc.2]
    · cases h

end Gx

/- Part Gx7. -/
/- What is read through pointers and slices; the pure operations, sound. -/
namespace Gx
open Go hiding sizeOf

variable {P : Program} {g : Gh} {w : World}

theorem flat_get {k : Nat} : ∀ {xs : List Pv}, (∀ x ∈ xs, x.cells.length = k) → ∀ {n : Nat} {e : Pv}, xs[n]? = some e → ∀ j, j < k → (xs.flatMap Pv.cells)[n * k + j]? = e.cells[j]?
  | [], _, n, e, h, _, _ => by simp at h
  | x :: xs, hx, n, e, h, j, hj => by
    have h1 := hx x (by simp)
    cases n with
    | zero =>
      simp only [List.getElem?_cons_zero, Option.some.injEq] at h
      subst h
      rw [List.flatMap_cons, List.getElem?_append_left (by omega)]
      simp
    | succ n =>
      simp only [List.getElem?_cons_succ] at h
      have e1 : (n + 1) * k + j = x.cells.length + (n * k + j) := by rw [h1, Nat.succ_mul]; omega
      rw [List.flatMap_cons, List.getElem?_append_right (by omega), show (n + 1) * k + j - x.cells.length = n * k + j by omega]
      exact flat_get (fun y hy => hx y (by simp [hy])) h j hj

theorem flat_cut {k : Nat} {xs : List Pv} (hx : ∀ x ∈ xs, x.cells.length = k) (h l : Nat) (j : Nat) (hj : j < ((xs.take h).drop l).length * k) :
    (((xs.take h).drop l).flatMap Pv.cells)[j]? = (xs.flatMap Pv.cells)[l * k + j]? := by
  have hk : 0 < k := by
    rcases Nat.eq_zero_or_pos k with h0 | h0
    · subst h0; simp at hj
    · exact h0
  have hq : j / k < ((xs.take h).drop l).length := Nat.div_lt_of_lt_mul (by rw [Nat.mul_comm]; exact hj)
  obtain ⟨e, he⟩ : ∃ e, ((xs.take h).drop l)[j / k]? = some e := ⟨_, List.getElem?_eq_getElem hq⟩
  have hm : j % k < k := Nat.mod_lt _ hk
  have hj' : j = j / k * k + j % k := by rw [Nat.mul_comm]; exact (Nat.div_add_mod j k).symm
  have hsub : ∀ x ∈ (xs.take h).drop l, x.cells.length = k := fun x hx' => hx x (List.mem_of_mem_take (List.mem_of_mem_drop hx'))
  have h1 := flat_get hsub he (j % k) hm
  have he2 : xs[l + j / k]? = some e := by
    rw [List.getElem?_drop, List.getElem?_take] at he
    split at he
    · exact he
    · cases he
  have h2 := flat_get hx he2 (j % k) hm
  have e3 : l * k + j = (l + j / k) * k + j % k := by rw [Nat.add_mul]; omega
  rw [e3, h2, ← h1]
  congr 1

/-- A part of a slice. -/
theorem R.cut {xs : List Pv} {a : Option Addr} {n c : Nat} (h : R g w (.sl false xs) (.slice a n c)) {sz hi lo : Nat} (hsz : 0 < sz) (hx : ∀ x ∈ xs, x.cells.length = sz) (h1 : hi ≤ xs.length) (h2 : lo ≤ hi) :
    n = xs.length ∧ n ≤ c ∧ R g w (.sl false ((xs.take hi).drop lo)) (.slice (if c = lo then a else a.map (·.add (lo * sz))) (hi - lo) (c - lo)) := by
  cases h with
  | slnil =>
    simp only [List.length_nil, Nat.le_zero] at h1
    subst h1
    obtain rfl : lo = 0 := by omega
    exact ⟨rfl, Nat.le_refl _, by simp; exact .slnil false⟩
  | sl xs a c k vs hsp hc hc2 hk hxk hcell h =>
    refine ⟨rfl, hc, ?_⟩
    have hlen : ((xs.take hi).drop lo).length = hi - lo := by simp; omega
    have hcut := R.sl (g := g) (w := w) ((xs.take hi).drop lo) (if c = lo then a else a.add (lo * sz)) (c - lo) sz (fun j => vs (lo * sz + j)) ?_ (by omega) (by omega) hsz (fun x hx' => ⟨hx x (List.mem_of_mem_take (List.mem_of_mem_drop hx')), (hxk x (List.mem_of_mem_take (List.mem_of_mem_drop hx'))).2⟩) ?_ ?_
    · rw [hlen] at hcut
      split
      · rename_i hcl; rw [if_pos hcl] at hcut; exact hcut
      · rename_i hcl; rw [if_neg hcl] at hcut; exact hcut
    · split
      · exact hsp
      · unfold Addr.add; split <;> simp [hsp]
    · intro j hj
      have hpos : 0 < hi - lo := by
        rcases Nat.eq_zero_or_pos (hi - lo) with h0 | h0
        · rw [hlen, h0] at hj; simp at hj
        · exact h0
      obtain ⟨x0, hx0⟩ : ∃ x, x ∈ xs := by
        cases xs with
        | nil => simp at h1; omega
        | cons x _ => exact ⟨x, by simp⟩
      have hks : k = sz := (hxk x0 hx0).1.symm.trans (hx x0 hx0)
      subst hks
      have hne : ¬ c = lo := by omega
      rw [if_neg hne]
      have hjl : lo * k + j < xs.length * k := by
        rw [hlen] at hj
        have : (hi - lo) * k + lo * k ≤ xs.length * k := by rw [← Nat.add_mul]; exact Nat.mul_le_mul_right k (by omega)
        omega
      have hcl := hcell (lo * k + j) hjl
      have hb : (a.add (lo * k)).block = a.block := by unfold Addr.add; split <;> rfl
      have ho : (a.add (lo * k)).off = a.off + lo * k := by unfold Addr.add; split <;> simp_all
      rw [hb, ho, Nat.add_assoc]
      exact hcl
    · intro j x hj
      have hjl : j < ((xs.take hi).drop lo).length * sz := by
        have := (List.getElem?_eq_some_iff.1 hj).1
        rwa [flat_len (fun x hx' => hx x (List.mem_of_mem_take (List.mem_of_mem_drop hx')))] at this
      rw [flat_cut hx hi lo j hjl] at hj
      exact h _ x hj

theorem R.bslcut {b off n : Nat} {a : Option Addr} {m c : Nat} (h : R g w (.bsl b off n) (.slice a m c)) {hi lo : Nat} (h1 : hi ≤ n) :
    m = n ∧ n ≤ c ∧ (lo < hi → R g w (.bsl b (off + lo) (hi - lo)) (.slice (if c = lo then a else a.map (·.add (lo * 1))) (hi - lo) (c - lo))) := by
  cases h with
  | bsl b off n c h hc hc2 =>
    refine ⟨rfl, hc, fun hlt => ?_⟩
    have hne : ¬ c = lo := by omega
    rw [if_neg hne]
    have hb : (Option.map (fun (x : Addr) => x.add (lo * 1)) (some (⟨g.bl b, off, none⟩ : Addr))) = some ⟨g.bl b, off + lo, none⟩ := by
      simp only [Option.map_some, Nat.mul_one]
      unfold Addr.add
      split <;> simp_all
    rw [hb]
    exact .bsl b (off + lo) (hi - lo) (c - lo) h (by omega) (by omega)

/-- An element's address. -/
theorem R.elem {xs : List Pv} {a : Option Addr} {n c : Nat} (h : R g w (.sl false xs) (.slice a n c)) {i : Nat} {e : Pv} (he : xs[i]? = some e) :
    n = xs.length ∧ ∃ ad, a = some ad ∧ R g w (.rptr e.cells 0) (.pointer (some (ad.add (i * e.cells.length)))) := by
  cases h with
  | slnil => simp at he
  | sl xs a c k vs hsp hc hc2 hk hxk hcell h =>
    refine ⟨rfl, a, rfl, ?_⟩
    have hmem : e ∈ xs := List.mem_of_getElem? he
    have hek := (hxk e hmem).1
    have hi : i < xs.length := (List.getElem?_eq_some_iff.1 he).1
    have hp := R.rptr (g := g) (w := w) e.cells 0 a.block (a.off + i * k) (fun j => vs (i * k + j)) (fun j hj => by
      have hlt : i * k + j < xs.length * k := by
        have : (i + 1) * k ≤ xs.length * k := Nat.mul_le_mul_right k hi
        rw [Nat.succ_mul] at this
        omega
      rw [Nat.add_assoc]
      exact hcell _ hlt) (fun j x hj => by
      have hjk : j < k := by have := (List.getElem?_eq_some_iff.1 hj).1; omega
      exact h _ x (by rw [flat_get (fun x h => (hxk x h).1) he j hjk]; exact hj))
    have hadd : a.add (i * e.cells.length) = ⟨a.block, a.off + i * k + 0, none⟩ := by
      rw [hek]
      unfold Addr.add
      split
      · rename_i h0
        rw [h0]
        obtain ⟨b, o, sp⟩ := a
        simp only at hsp
        subst hsp
        rfl
      · rfl
    rw [hadd]
    exact hp

end Gx
