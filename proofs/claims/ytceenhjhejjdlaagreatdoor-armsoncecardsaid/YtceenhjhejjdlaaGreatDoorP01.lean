/- The abstract interpreter: values are trees, slices that are never written again are lists. -/
import GoSem.Claims
import Derived.Calls
import Derived.Orders
import Derived.Laws.CopyRow
import Derived.Laws.Cells
import Derived.Eval
import Derived.Defers
import Derived.Laws.Strings
set_option linter.unusedSimpArgs false
set_option linter.unusedVariables false
section
namespace Go.Rs
noncomputable section

/-! ## Tries -/
inductive Tr (α : Type) where
  | nil
  | leaf (a : α)
  | node (l r : Tr α)
  deriving Inhabited

def Tr.getD' {α : Type} (d : Nat) : Tr α → Nat → Option α :=
  Nat.rec (motive := fun _ => Tr α → Nat → Option α)
    (fun t i => Tr.casesOn (motive := fun _ => Option α) t none (fun a => cond (Nat.beq i 0) (some a) none) (fun _ _ => none))
    (fun _ ih t i => Tr.casesOn (motive := fun _ => Option α) t none (fun _ => none) (fun l r => cond (Nat.beq (i % 2) 0) (ih l (i / 2)) (ih r (i / 2)))) d

def Tr.setD' {α : Type} (d : Nat) : Tr α → Nat → α → Tr α :=
  Nat.rec (motive := fun _ => Tr α → Nat → α → Tr α)
    (fun t i a => cond (Nat.beq i 0) (.leaf a) t)
    (fun _ ih t i a => Tr.casesOn (motive := fun _ => Tr α) t
      (cond (Nat.beq (i % 2) 0) (.node (ih .nil (i / 2) a) .nil) (.node .nil (ih .nil (i / 2) a)))
      (fun _ => cond (Nat.beq (i % 2) 0) (.node (ih .nil (i / 2) a) .nil) (.node .nil (ih .nil (i / 2) a)))
      (fun l r => cond (Nat.beq (i % 2) 0) (.node (ih l (i / 2) a) r) (.node l (ih r (i / 2) a)))) d

/-- the depth of all tries: indices below 2^12 -/
def Tr.get {α : Type} (t : Tr α) (i : Nat) : Option α := getD' 12 t i
def Tr.set {α : Type} (t : Tr α) (i : Nat) (a : α) : Tr α := setD' 12 t i a

/-! ## Values -/
inductive Tok where
  | none            -- nothing is known of the capacity
  | full            -- the capacity is the length
  | own (t : Nat)   -- while object t is alive, what lies behind the end is free
  deriving DecidableEq, Inhabited, Repr

inductive AVal where
  | undef
  | bool (b : Bool)
  | int (k : IntKind) (n : Int)
  | str (s : ByteArray)
  | nilptr
  | ptr (id off : Nat)
  | lptr (t off : Nat)
  | eptr (xs : List AVal) (i off : Nat)
  | nilslice
  | list (xs : List AVal) (tok : Tok) (sz : Nat)
  | sl (id off len sz : Nat)
  | nilmap
  | map (id : Nat)
  | func (fn : Fn) (first captured : List AVal)
  | nilfunc
  | iface (t : TypeId) (v : AVal)
  | niliface
  | agg (cs : List AVal)
  | tuple (vs : List AVal)
  | iter (id : Nat)
  deriving Inhabited

inductive AObj where
  | cells (cs : List AVal)
  | map (kt : TypeId) (es : List (AVal × AVal))
  | tok
  | siter (s : ByteArray) (pos : Nat)
  | dead
  deriving Inhabited

structure Hp where
  h : Tr AObj
  next : Nat
  deriving Inhabited

/-- the frame's own variables, by the number of their making -/
structure Lv where
  tr : Tr (List AVal)
  next : Nat
  deriving Inhabited

def Lv.get (l : Lv) (t : Nat) : Option (List AVal) := l.tr.get t
def Lv.set (l : Lv) (t : Nat) (cs : List AVal) : Lv := { l with tr := l.tr.set t cs }
def Lv.push (l : Lv) (cs : List AVal) : Lv := { tr := l.tr.set l.next cs, next := l.next + 1 }

structure Fr where
  tm : Tr AVal
  lv : Lv
  n : Nat
  deriving Inhabited

def Hp.get (H : Hp) (i : Nat) : AObj := (H.h.get i).getD .dead
def Hp.set (H : Hp) (i : Nat) (o : AObj) : Hp := { H with h := H.h.set i o }
def Hp.alloc (H : Hp) (o : AObj) : Nat × Hp := (H.next, { h := H.h.set H.next o, next := H.next + 1 })

def AVal.cells : AVal → List AVal
  | .agg cs => cs
  | v => [v]

/-- may lie in one cell -/
def AVal.oneCell : AVal → Bool
  | .agg _ | .tuple _ | .undef | .lptr _ _ | .iter _ => false
  | _ => true

/-- may be handed on -/
def AVal.handed : AVal → Bool
  | .undef | .lptr _ _ | .tuple _ | .iter _ => false
  | .agg cs => cs.all (·.oneCell)
  | _ => true

/-- without the right to grow -/
def AVal.strip : AVal → AVal
  | .list xs _ sz => .list xs .none sz
  | v => v

/-! ## Types -/
inductive UD where
  | other
  | func
  | int (k : IntKind)
  | str
  | bool
  | slice (e : TypeId)
  | arr (n : Nat) (e : TypeId)
  | struct (fs : List (Nat × TypeId))
  | map (k e : TypeId)
  | ptr (e : TypeId)
  | iface
  deriving Inhabited, Repr

structure TyI where
  ok : Bool
  /-- the zero value is known, cell by cell -/
  zok : Bool
  u : UD
  size : Nat
  bytes : Nat
  zero : List AVal
  /-- the zero value -/
  zv : AVal
  meth : String → Option FuncId

instance : Inhabited TyI := ⟨{ ok := false, zok := false, u := .other, size := 0, bytes := 0, zero := [], zv := .undef, meth := fun _ => none }⟩

/-- what the interpreter is told -/
structure Env where
  ty : TypeId → TyI
  fn : FuncId → Option Func
  /-- (function, slot of an alloc or a box): its variable is the frame's own -/
  loc : FuncId → Nat → Bool
  /-- (function, slot of an append, a make): it makes an object that may be written -/
  wr : Bool → FuncId → Nat → Bool
  /-- the function's result is laid as lists -/
  frz : Bool → FuncId → Bool
  /-- what the function calls is run in the writing mode -/
  up : FuncId → Bool
  /-- reads to be asked again: (function, region): the operation and the numbers of effects from, to -/
  ask : FuncId → Nat → List (Nat × Nat × Nat)
  /-- the globals that are looked at: they lie in the heap from the start -/
  glob : Nat → Bool
  /-- what functions do that are proved already -/
  spec : Bool → FuncId → Option (List AVal → Hp → Option (AVal × Hp))
  loops : Nat
  /-- is it a key of the type? -/
  keyFit : TypeId → AVal → Bool
  /-- a deferred call of it does nothing where nothing panics -/
  mute : FuncId → Bool
  /-- what lies in the function's result's slices is laid as lists -/
  frzIn : FuncId → Bool

def isAgg : UD → Bool
  | .struct _ | .arr .. => true
  | _ => false

def udOf (p : Program) (t : TypeId) : UD :=
  match p.underlying t with
  | some (.int k) => .int k
  | some .string => .str
  | some .bool => .bool
  | some (.slice e) => .slice e
  | some (.array n e) => .arr n e
  | some (.struct fs) => .struct (fs.toList.map fun f => (f.offset, f.type))
  | some (.map k e) => .map k e
  | some (.pointer e) => .ptr e
  | some (.interface _) => .iface
  | some (.func ..) => .func
  | _ => .other

/-! ## Constants -/
mutual
def toA : Value → AVal
  | .bool b => .bool b
  | .int k n => .int k n
  | .string s => .str s
  | .pointer none => .nilptr
  | .slice none 0 0 => .nilslice
  | .map none => .nilmap
  | .nilFunc => .nilfunc
  | .nilIface => .niliface
  | .iface t v => .iface t (toA v)
  | .agg ⟨cs⟩ => .agg (toAs cs)
  | .tuple ⟨[]⟩ => .tuple []
  | _ => .undef
def toAs : List Value → List AVal
  | [] => []
  | v :: vs => toA v :: toAs vs
end

/-- the function of a pointer's method -/
def methOf (p : Program) (t : TypeId) (name : String) : Option FuncId :=
  match p.info? t, p.underlying t with
  | some i, some (.pointer _) => match i.methods.find? (·.name == name) with
    | some m => match m.func with
      | some (f, true) => if m.path.isEmpty then some f else none
      | _ => none
    | none => none
  | _, _ => none

def okOf (p : Program) (t : TypeId) : Bool := (p.info? t).isSome && (p.underlying t).isSome

def fieldsOk (p : Program) (t : TypeId) : Bool :=
  match p.underlying t with
  | some (.struct fs) => fs.toList.all fun f => okOf p f.type
  | _ => true

def tyOf (p : Program) (t : TypeId) : TyI :=
  match p.info? t with
  | some i =>
    let z := match i.zero with | some v => (toA v).cells | none => []
    { ok := (p.underlying t).isSome, zok := i.zero.isSome && !z.isEmpty && z.all (·.oneCell) && z.length == i.size && fieldsOk p t, u := udOf p t, size := i.size, bytes := i.bytes, zero := z, zv := (match i.zero with | some v => toA v | none => .undef), meth := methOf p t }
  | none => { ok := false, zok := false, u := .other, size := 0, bytes := 0, zero := [], zv := .undef, meth := fun _ => none }

def evT (E : Env) (tm : Tr AVal) : Operand → AVal
  | .tmp t => (tm.get t).getD .undef
  | .const v => toA v
  | .global g => if E.glob g then .ptr g 0 else .undef
  | .func f => .func (.func f) [] []

def Fr.put (fr : Fr) (d : Option Tmp) (v : AVal) : Option Fr :=
  match d with
  | some d => if d < fr.n then some { fr with tm := fr.tm.set d v } else none
  | none => some fr

/-! ## Memory -/
def maxRow : Nat := 2 ^ 32
def maxTmp : Nat := 2 ^ 12

def takeCells (agg : Bool) (n off : Nat) (cs : List AVal) : Option AVal :=
  if agg then
    let l := (cs.drop off).take n
    if l.length = n then some (.agg l) else none
  else cs[off]?

def setCells (off : Nat) : List AVal → List AVal → Option (List AVal)
  | [], cs => some cs
  | v :: vs, cs => if off < cs.length then setCells (off + 1) vs (cs.set off v) else none

def loadA (E : Env) (T : TypeId) (lv : Lv) (H : Hp) (a : AVal) : Option AVal :=
  let i := E.ty T
  if !i.ok then none else
  match a with
  | .lptr t off => match lv.get t with
    | some cs => takeCells (isAgg i.u) i.size off cs
    | none => none
  | .ptr id off => match H.get id with
    | .cells cs => takeCells (isAgg i.u) i.size off cs
    | _ => none
  | .eptr xs k off => match xs[k]? with
    | some x => takeCells (isAgg i.u) i.size off x.cells
    | none => none
  | _ => none

def storeA (E : Env) (T : TypeId) (lv : Lv) (H : Hp) (a v : AVal) : Option (Lv × Hp) :=
  let i := E.ty T
  let vs := v.cells
  if i.ok = true ∧ vs.length = i.size ∧ vs.all (·.oneCell) = true then
    match a with
    | .lptr t off => match lv.get t with
      | some cs => match setCells off vs cs with
        | some cs' => if t < maxTmp then some (lv.set t cs', H) else none
        | none => none
      | none => none
    | .ptr id off => match H.get id with
      | .cells cs => match setCells off vs cs with
        | some cs' => some (lv, H.set id (.cells cs'))
        | none => none
      | _ => none
    | _ => none
  else none

/-- the elements of a row of cells -/
def groups (sz : Nat) (agg : Bool) : Nat → List AVal → List AVal
  | 0, _ => []
  | n + 1, cs => (if agg || sz != 1 then .agg (cs.take sz) else cs.headD .undef) :: groups sz agg n (cs.drop sz)

/-- the elements of a slice or a string -/
def elemsOf (E : Env) (e : TypeId) (H : Hp) : AVal → Option (List AVal)
  | .nilslice => some []
  | .list xs _ sz => if sz = (E.ty e).size then some xs else none
  | .sl id off len sz => match H.get id with
    | .cells cs =>
      let i := E.ty e
      if sz = i.size ∧ off + len * sz ≤ cs.length then some (groups sz (isAgg i.u) len (cs.drop off)) else none
    | _ => none
  | .str s => if (E.ty e).size = 1 then some (s.data.toList.map fun b => .int .u8 b.toNat) else none
  | _ => none

def repl : Nat → List AVal → List AVal
  | 0, _ => []
  | n + 1, z => z ++ repl n z

def flat : List AVal → List AVal
  | [] => []
  | x :: xs => x.cells ++ flat xs

def lenOf : AVal → Option Nat
  | .nilslice => some 0
  | .list xs _ _ => some xs.length
  | .sl _ _ len _ => some len
  | .str s => some s.size
  | _ => none

def newA (r : Nat × Hp) (k : Nat → AVal) : Option (AVal × Hp) := if r.1 < maxTmp then some (k r.1, r.2) else none

/-- what is appended: the elements of a slice, or so many zeros -/
def appended (E : Env) (e xT : TypeId) (H : Hp) (x : AVal) : Option (List AVal) :=
  match (E.ty xT).u with
  | .int _ => match x with
    | .int _ n => if 0 ≤ n ∧ n < maxRow then some (groups (E.ty e).size (isAgg (E.ty e).u) n.toNat (repl n.toNat (E.ty e).zero)) else none
    | _ => none
  | .slice _ | .str => elemsOf E e H x
  | _ => none

def appendA (E : Env) (wr : Bool) (T xT : TypeId) (H : Hp) (s x : AVal) : Option (AVal × Hp) :=
  match (E.ty T).u with
  | .slice e =>
    let i := E.ty e
    match appended E e xT H x with
    | none => none
    | some ys =>
      if i.ok && i.zok && i.bytes < 4096 then
        match ys with
        | [] =>
          match s with
          | .nilslice | .list .. | .sl .. => some (s, H)
          | _ => none
        | _ =>
          match s with
          | .nilslice =>
            if ys.length < maxRow then
              if wr then newA (H.alloc (.cells (flat ys))) (.sl · 0 ys.length i.size)
              else newA (H.alloc .tok) (fun t => .list ys (.own t) i.size)
            else none
          | .list xs tok sz =>
            if sz = i.size ∧ xs.length + ys.length < maxRow then
              match tok with
              | .none => none
              | .full =>
                if wr then newA (H.alloc (.cells (flat (xs ++ ys)))) (.sl · 0 (xs.length + ys.length) i.size)
                else newA (H.alloc .tok) (fun t => .list (xs ++ ys) (.own t) sz)
              | .own t =>
                match H.get t with
                | .tok => newA ((H.set t .dead).alloc .tok) (fun t' => .list (xs ++ ys) (.own t') sz)
                | _ => none
            else none
          | .sl id off len sz =>
            match H.get id with
            | .cells cs =>
              if off = 0 ∧ sz = i.size ∧ len * sz ≤ cs.length ∧ len + ys.length < maxRow then
                newA ((H.set id .dead).alloc (.cells (cs.take (len * sz) ++ flat ys))) (.sl · 0 (len + ys.length) sz)
              else none
            | _ => none
          | _ => none
      else none
  | _ => none

def dstLen : AVal → Option Nat
  | .nilslice => some 0
  | .list xs _ _ => some xs.length
  | .sl _ _ len _ => some len
  | _ => none

def copyA (E : Env) (T : TypeId) (H : Hp) (d s : AVal) : Option (AVal × Hp) :=
  match (E.ty T).u with
  | .slice e =>
    match elemsOf E e H s, dstLen d with
    | some ys, some dl =>
      if (E.ty e).ok = true ∧ (E.ty e).zok = true then
        let n := min ys.length dl
        if n = 0 then some (.int .i64 0, H) else
          match d with
          | .sl id off _ sz => match H.get id with
            | .cells cs => if sz = (E.ty e).size then match setCells off (flat (ys.take n)) cs with
                | some cs' => some (.int .i64 n, H.set id (.cells cs'))
                | none => none
              else none
            | _ => none
          | _ => none
      else none
    | _, _ => none
  | _ => none

/-! ## Equality -/
mutual
def eqA : AVal → AVal → Option Bool
  | .bool a, .bool b => some (a == b)
  | .int j a, .int k b => if j = k then some (a == b) else none
  | .str a, .str b => some (a.data.toList == b.data.toList)
  | .agg as, .agg bs => eqAs as bs
  | _, _ => none
def eqAs : List AVal → List AVal → Option Bool
  | [], [] => some true
  | a :: as, b :: bs => match eqA a b with
    | some true => eqAs as bs
    | some false => some false
    | none => none
  | _, _ => none
end

/-- '==' at a type -/
def eqlA (u : UD) (x y : AVal) : Option Bool :=
  match u, x, y with
  | .slice _, .nilslice, .nilslice => some true
  | .slice _, .nilslice, .list .. | .slice _, .nilslice, .sl .. | .slice _, .list .., .nilslice | .slice _, .sl .., .nilslice => some false
  | .iface, .niliface, .niliface => some true
  | .iface, .iface .., .niliface | .iface, .niliface, .iface .. => some false
  | .map .., .nilmap, .nilmap => some true
  | .map .., .map _, .nilmap | .map .., .nilmap, .map _ => some false
  | .func, .nilfunc, .nilfunc => some true
  | .func, .func .., .nilfunc | .func, .nilfunc, .func .. => some false
  | .bool, .bool a, .bool b => some (a == b)
  | .ptr _, .nilptr, .nilptr => some true
  | .ptr _, .nilptr, .ptr .. | .ptr _, .ptr .., .nilptr => some false
  | _, _, _ => none

def findE (k : AVal) : List (AVal × AVal) → Option (Option AVal)
  | [] => some none
  | (k', v) :: es => match eqA k k' with
    | some true => some (some v)
    | some false => findE k es
    | none => none

def updE (k v : AVal) : List (AVal × AVal) → Option (List (AVal × AVal))
  | [] => some [(k, v)]
  | (k', v') :: es => match eqA k k' with
    | some true => some ((k', v) :: es)
    | some false => (updE k v es).map ((k', v') :: ·)
    | none => none

/-! ## Operators -/
def bytesLess : List UInt8 → List UInt8 → Bool
  | _, [] => false
  | [], _ :: _ => true
  | a :: x, b :: y => a < b || (a == b && bytesLess x y)

def arith (op : BinOp) (k : IntKind) (a b : Int) : Option AVal :=
  match op with
  | .add => some (.int k (k.wrap (a + b)))
  | .sub => some (.int k (k.wrap (a - b)))
  | .mul => some (.int k (k.wrap (a * b)))
  | .quo => if b = 0 then none else some (.int k (k.wrap (a.tdiv b)))
  | .rem => if b = 0 then none else some (.int k (a.tmod b))
  | .and => some (.int k (k.wrap (BitVec.ofInt k.bits a &&& BitVec.ofInt k.bits b).toNat))
  | .or => some (.int k (k.wrap (BitVec.ofInt k.bits a ||| BitVec.ofInt k.bits b).toNat))
  | .xor => some (.int k (k.wrap (BitVec.ofInt k.bits a ^^^ BitVec.ofInt k.bits b).toNat))
  | .andNot => some (.int k (k.wrap (BitVec.ofInt k.bits a &&& ~~~(BitVec.ofInt k.bits b)).toNat))
  | .eql => some (.bool (a == b))
  | .neq => some (.bool (a != b))
  | .lss => some (.bool (a < b))
  | .leq => some (.bool (a ≤ b))
  | .gtr => some (.bool (a > b))
  | .geq => some (.bool (a ≥ b))
  | _ => none

def strOp (op : BinOp) (a b : ByteArray) : Option AVal :=
  match op with
  | .add => if a.size + b.size < 2 ^ 40 then some (.str (a ++ b)) else none
  | .eql => some (.bool (a.data.toList == b.data.toList))
  | .neq => some (.bool !(a.data.toList == b.data.toList))
  | .lss => some (.bool (bytesLess a.data.toList b.data.toList))
  | _ => none

def binA (E : Env) (op : BinOp) (T : TypeId) (x y : AVal) : Option AVal :=
  match op, x, y with
  | .shl, .int k a, .int _ b => if b < 0 then none else some (.int k (k.wrap (a * 2 ^ (min b.toNat k.bits))))
  | .shr, .int k a, .int _ b => if b < 0 then none else some (.int k (a.fdiv (2 ^ (min b.toNat k.bits))))
  | _, .int k a, .int k' b => if k = k' then arith op k a b else none
  | _, .str a, .str b => strOp op a b
  | .eql, x, y => (eqlA (E.ty T).u x y).map .bool
  | .neq, x, y => (eqlA (E.ty T).u x y).map fun b => .bool (!b)
  | _, _, _ => none

def unA (op : UnOp) (x : AVal) : Option AVal :=
  match op, x with
  | .neg, .int k n => some (.int k (k.wrap (0 - n)))
  | .not, .bool b => some (.bool !b)
  | _, _ => none

def convA (E : Env) (src dst : TypeId) (x : AVal) : Option AVal :=
  match (E.ty src).u, (E.ty dst).u, x with
  | .int _, .int k, .int _ n => some (.int k (k.wrap n))
  | .str, .str, .str s => some (.str s)
  | _, _, _ => none

/-! ## Slices -/
def bound (v : Option AVal) (dflt most : Nat) : Option Nat :=
  match v with
  | none => some dflt
  | some (.int _ i) => if 0 ≤ i ∧ i ≤ most then some i.toNat else none
  | _ => none

/-- the list, laid out whole -/
def forceL {β : Type} (l : List UInt8) : (List UInt8 → β) → β := List.rec (motive := fun _ => (List UInt8 → β) → β) (fun k => k []) (fun x _ ih k => ih fun ys => k (x :: ys)) l

/-- a piece of a string -/
def cutB (s : ByteArray) (l h : Nat) : ByteArray := forceL ((s.data.toList.drop l).take (h - l)) fun x => ⟨⟨x⟩⟩

theorem forceL_eq {β : Type} : ∀ (l : List UInt8) (k : List UInt8 → β), forceL l k = k l
  | [], _ => rfl
  | x :: l, k => forceL_eq l fun ys => k (x :: ys)

theorem cutB_eq (s : ByteArray) (l h : Nat) : cutB s l h = s.extract l h := by
  unfold cutB
  rw [forceL_eq]
  apply ByteArray.ext
  apply Array.ext'
  simp [ByteArray.data_extract]

def sliceA (E : Env) (T : TypeId) (H : Hp) (x : AVal) (lo hi mx : Option AVal) : Option AVal :=
  match (E.ty T).u, x with
  | .str, .str s =>
    if mx.isSome then none else
    match bound hi s.size s.size with
    | some h => match bound lo 0 h with
      | some l => some (.str (cutB s l h))
      | none => none
    | none => none
  | .slice e, x =>
    match lenOf x with
    | none => none
    | some len =>
      match mx with
      | none =>
        match bound hi len len with
        | none => none
        | some h => match bound lo 0 h with
          | none => none
          | some l => match x with
            | .nilslice => if (E.ty e).ok then some .nilslice else none
            | .list xs tok sz => if (E.ty e).ok ∧ sz = (E.ty e).size then some (.list ((xs.take h).drop l) (if h = len then tok else .none) sz) else none
            | .sl id off _ sz => if (E.ty e).ok ∧ sz = (E.ty e).size then some (.sl id (off + l * sz) (h - l) sz) else none
            | _ => none
      | some m =>
        if hi.isNone then none else
        match bound (some m) len len with
        | none => none
        | some m => match bound hi m m with
          | none => none
          | some h => match bound lo 0 h with
            | none => none
            | some l => match x with
              | .nilslice => if (E.ty e).ok then some .nilslice else none
              | .list xs _ sz => if (E.ty e).ok ∧ sz = (E.ty e).size then some (.list ((xs.take h).drop l) (if h = m then .full else .none) sz) else none
              | _ => none
  | _, _ => none

/-! ## Operations without calls -/
def fillA (place : Nat → Option (Nat × Nat)) (cells : List AVal) : List (Nat × AVal) → Option (List AVal)
  | [] => some cells
  | (i, v) :: rest =>
    match place i with
    | none => none
    | some (off, size) =>
      let vs := v.strip.cells
      if vs.length = size ∧ off + vs.length ≤ cells.length ∧ vs.all (·.oneCell) = true then
        match setCells off vs cells with
        | some cs => fillA place cs rest
        | none => none
      else none

def foldInt (f : Int → Int → Int) (k : IntKind) : Int → List AVal → Option AVal
  | a, [] => some (.int k a)
  | a, .int k' b :: rest => if k = k' then foldInt f k (f a b) rest else none
  | _, _ => none

def isConst : Operand → Bool
  | .const _ => true
  | _ => false

def nilNil : AVal → AVal → Bool
  | .niliface, .niliface => true
  | _, _ => false

def foundA (H : Hp) (kt : TypeId) (m k : AVal) : Option (Option AVal) :=
  match m with
  | .nilmap => some none
  | .map id => match H.get id with
    | .map kt' es => if kt' = kt then findE k es else none
    | _ => none
  | _ => none

def keepA (lv : Lv) (H : Hp) : Option AVal → Option (AVal × Lv × Hp)
  | some x => some (x, lv, H)
  | none => none

def newV (lv : Lv) (r : Nat × Hp) (k : Nat → AVal) : Option (AVal × Lv × Hp) := if r.1 < maxTmp then some (k r.1, lv, r.2) else none

def notIface : UD → Bool
  | .iface => false
  | _ => true

def wrOf (E : Env) (md : Bool) (f : FuncId) (o : Oper) : Bool :=
  match o.dst with
  | some d => E.wr md f d
  | none => false

def sameTy (x : AVal) : Bool :=
  match x with
  | .tuple _ | .iter _ => true
  | _ => false

def addOff (k : Nat) : AVal → Option AVal
  | .ptr id o => some (.ptr id (o + k))
  | .lptr t o => some (.lptr t (o + k))
  | .eptr xs i o => some (.eptr xs i (o + k))
  | _ => none

def opMove (E : Env) (md : Bool) (f : FuncId) (o : Oper) (ev : Operand → AVal) (lv : Lv) (H : Hp) (x : Operand) : Option (AVal × Lv × Hp) :=
  let v := keepA lv H
  let v2 := newV lv
  if (ev x).handed || sameTy (ev x) then v (some (ev x)) else none

def opPick (E : Env) (md : Bool) (f : FuncId) (o : Oper) (ev : Operand → AVal) (lv : Lv) (H : Hp) (c a b : Operand) : Option (AVal × Lv × Hp) :=
  let v := keepA lv H
  let v2 := newV lv
  match ev c with
    | .bool t => if (if t then ev a else ev b).handed then v (some (if t then ev a else ev b)) else none
    | _ => none

def opAlloc (E : Env) (md : Bool) (f : FuncId) (o : Oper) (ev : Operand → AVal) (lv : Lv) (H : Hp) (T : TypeId) : Option (AVal × Lv × Hp) :=
  let v := keepA lv H
  let v2 := newV lv
  match o.dst with
    | some d =>
      if !(E.ty T).zok then none
      else if E.loc f d then (if lv.next < maxTmp then some (.lptr lv.next 0, lv.push (E.ty T).zero, H) else none)
      else v2 (H.alloc (.cells (E.ty T).zero)) (.ptr · 0)
    | none => none

def opBox (E : Env) (md : Bool) (f : FuncId) (o : Oper) (ev : Operand → AVal) (lv : Lv) (H : Hp) (T : TypeId) (x : Operand) : Option (AVal × Lv × Hp) :=
  let v := keepA lv H
  let v2 := newV lv
  let vs := (ev x).cells
    if vs.all (·.oneCell) = true then
      match o.dst with
      | some d =>
        if E.loc f d then (if lv.next < maxTmp then some (.lptr lv.next 0, lv.push vs, H) else none)
        else v2 (H.alloc (.cells vs)) (.ptr · 0)
      | none => none
    else none

def opBuild (E : Env) (md : Bool) (f : FuncId) (o : Oper) (ev : Operand → AVal) (lv : Lv) (H : Hp) (T : TypeId) (ps : Array (Nat × Operand)) : Option (AVal × Lv × Hp) :=
  let v := keepA lv H
  let v2 := newV lv
  if !(E.ty T).zok then none else
    let l := ps.toList.map fun (i, x) => (i, ev x)
    match (E.ty T).u with
    | .struct fs => v ((fillA (fun i => match fs[i]? with | some (off, t) => if (E.ty t).ok then some (off, (E.ty t).size) else none | none => none) (E.ty T).zero l).map .agg)
    | .arr _ e => if (E.ty e).ok then v ((fillA (fun i => some (i * (E.ty e).size, (E.ty e).size)) (E.ty T).zero l).map .agg) else none
    | _ => none

def opBuildSlice (E : Env) (md : Bool) (f : FuncId) (o : Oper) (ev : Operand → AVal) (lv : Lv) (H : Hp) (T : TypeId) (n : Nat) (ps : Array (Nat × Operand)) : Option (AVal × Lv × Hp) :=
  let v := keepA lv H
  let v2 := newV lv
  let l := ps.toList.map fun (i, x) => (i, ev x)
    match (E.ty T).u with
    | .slice e =>
      let i := E.ty e
      if i.ok && i.zok && n * i.size ≤ 2 ^ 24 then
        match fillA (fun k => some (k * i.size, i.size)) (repl n i.zero) l with
        | some cs =>
          v (some (.list (groups i.size (isAgg i.u) n cs) .full i.size))
        | none => none
      else none
    | _ => none

def opLoad (E : Env) (md : Bool) (f : FuncId) (o : Oper) (ev : Operand → AVal) (lv : Lv) (H : Hp) (T : TypeId) (a : Operand) : Option (AVal × Lv × Hp) :=
  let v := keepA lv H
  let v2 := newV lv
  v (loadA E T lv H (ev a))

def opStore (E : Env) (md : Bool) (f : FuncId) (o : Oper) (ev : Operand → AVal) (lv : Lv) (H : Hp) (T : TypeId) (a x : Operand) : Option (AVal × Lv × Hp) :=
  let v := keepA lv H
  let v2 := newV lv
  match storeA E T lv H (ev a) (ev x) with
    | some (lv, H) => some (.undef, lv, H)
    | none => none

def opNilCheck (E : Env) (md : Bool) (f : FuncId) (o : Oper) (ev : Operand → AVal) (lv : Lv) (H : Hp) (x : Operand) : Option (AVal × Lv × Hp) :=
  let v := keepA lv H
  let v2 := newV lv
  match ev x with
    | .ptr id off => v (some (.ptr id off))
    | .func fn a b => match fn with
      | .func _ => v (some (.func fn a b))
      | .method name => match a with
        | .iface t _ :: _ => match (E.ty t).meth name with
          | some _ => v (some (.func fn a b))
          | none => none
        | _ => none
      | _ => none
    | .iface t x => v (some (.iface t x))
    | _ => none

def opBinOp (E : Env) (md : Bool) (f : FuncId) (o : Oper) (ev : Operand → AVal) (lv : Lv) (H : Hp) (op : BinOp) (T : TypeId) (x y : Operand) : Option (AVal × Lv × Hp) :=
  let v := keepA lv H
  let v2 := newV lv
  if nilNil (ev x) (ev y) && !isConst x && !isConst y then none else v (binA E op T (ev x) (ev y))

def opUnOp (E : Env) (md : Bool) (f : FuncId) (o : Oper) (ev : Operand → AVal) (lv : Lv) (H : Hp) (op : UnOp) (x : Operand) : Option (AVal × Lv × Hp) :=
  let v := keepA lv H
  let v2 := newV lv
  v (unA op (ev x))

def opConvert (E : Env) (md : Bool) (f : FuncId) (o : Oper) (ev : Operand → AVal) (lv : Lv) (H : Hp) (s d : TypeId) (x : Operand) : Option (AVal × Lv × Hp) :=
  let v := keepA lv H
  let v2 := newV lv
  v (convA E s d (ev x))

def opMakeInterface (E : Env) (md : Bool) (f : FuncId) (o : Oper) (ev : Operand → AVal) (lv : Lv) (H : Hp) (T : TypeId) (x : Operand) : Option (AVal × Lv × Hp) :=
  let v := keepA lv H
  let v2 := newV lv
  if (ev x).handed && (E.ty T).ok && notIface (E.ty T).u then v (some (.iface T (ev x))) else none

def opMakeFunc (E : Env) (md : Bool) (f : FuncId) (o : Oper) (ev : Operand → AVal) (lv : Lv) (H : Hp) (fn : Fn) (first captured : Array Operand) : Option (AVal × Lv × Hp) :=
  let v := keepA lv H
  let v2 := newV lv
  let a := first.toList.map ev
    let b := captured.toList.map ev
    if a.all (·.handed) && b.all (·.handed) then v (some (.func fn a b)) else none

def opMakeMap (E : Env) (md : Bool) (f : FuncId) (o : Oper) (ev : Operand → AVal) (lv : Lv) (H : Hp) (T : TypeId) : Option (AVal × Lv × Hp) :=
  let v := keepA lv H
  let v2 := newV lv
  match (E.ty T).u with
    | .map kt _ => v2 (H.alloc (.map kt [])) .map
    | _ => none

def opMakeSlice (E : Env) (md : Bool) (f : FuncId) (o : Oper) (ev : Operand → AVal) (lv : Lv) (H : Hp) (T : TypeId) (l c : Operand) : Option (AVal × Lv × Hp) :=
  let v := keepA lv H
  let v2 := newV lv
  match (E.ty T).u, ev l, ev c with
    | .slice e, .int _ n, .int _ m =>
      if 0 ≤ n ∧ n ≤ m ∧ m < maxRow ∧ (E.ty e).ok = true ∧ (E.ty e).zok = true ∧ (E.ty e).bytes < 4096 then
        if n = m || wrOf E md f o then
          v2 (H.alloc (.cells (repl n.toNat (E.ty e).zero))) (.sl · 0 n.toNat (E.ty e).size)
        else if n = 0 then
          v2 (H.alloc .tok) (fun t => .list [] (.own t) (E.ty e).size)
        else none
      else none
    | _, _, _ => none

def opSlice (E : Env) (md : Bool) (f : FuncId) (o : Oper) (ev : Operand → AVal) (lv : Lv) (H : Hp) (T : TypeId) (x : Operand) (lo hi mx : Option Operand) : Option (AVal × Lv × Hp) :=
  let v := keepA lv H
  let v2 := newV lv
  v (sliceA E T H (ev x) (lo.map ev) (hi.map ev) (mx.map ev))

def opFieldAddr (E : Env) (md : Bool) (f : FuncId) (o : Oper) (ev : Operand → AVal) (lv : Lv) (H : Hp) (T : TypeId) (x : Operand) (k : Nat) : Option (AVal × Lv × Hp) :=
  let v := keepA lv H
  let v2 := newV lv
  match (E.ty T).u with
    | .struct fs => match fs[k]? with
      | some (off, t) =>
        if (E.ty t).size = 0 || !(E.ty t).ok then none else v (addOff off (ev x))
      | none => none
    | _ => none

def opField (E : Env) (md : Bool) (f : FuncId) (o : Oper) (ev : Operand → AVal) (lv : Lv) (H : Hp) (T : TypeId) (x : Operand) (k : Nat) : Option (AVal × Lv × Hp) :=
  let v := keepA lv H
  let v2 := newV lv
  match (E.ty T).u, ev x with
    | .struct fs, .agg cs => match fs[k]? with
      | some (off, t) => if !(E.ty t).ok then none else v (takeCells (isAgg (E.ty t).u) (E.ty t).size off cs)
      | none => none
    | _, _ => none

def opIndexAddr (E : Env) (md : Bool) (f : FuncId) (o : Oper) (ev : Operand → AVal) (lv : Lv) (H : Hp) (T : TypeId) (x ix : Operand) : Option (AVal × Lv × Hp) :=
  let v := keepA lv H
  let v2 := newV lv
  match ev ix with
    | .int _ i => match (E.ty T).u with
      | .slice e => match ev x with
        | .list xs _ sz => if 0 ≤ i ∧ i < xs.length ∧ (E.ty e).ok = true ∧ sz = (E.ty e).size then v (some (.eptr xs i.toNat 0)) else none
        | .sl id off len sz => if 0 ≤ i ∧ i < len ∧ (E.ty e).ok = true ∧ sz = (E.ty e).size then v (some (.ptr id (off + i.toNat * sz))) else none
        | _ => none
      | .arr n e => if 0 ≤ i ∧ i < n ∧ (E.ty e).ok = true then v (addOff (i.toNat * (E.ty e).size) (ev x)) else none
      | _ => none
    | _ => none

def opIndex (E : Env) (md : Bool) (f : FuncId) (o : Oper) (ev : Operand → AVal) (lv : Lv) (H : Hp) (T : TypeId) (x ix : Operand) : Option (AVal × Lv × Hp) :=
  let v := keepA lv H
  let v2 := newV lv
  match (E.ty T).u, ev x, ev ix with
    | .str, .str s, .int _ i => if 0 ≤ i ∧ i < s.size then v (some (.int .u8 (s.data.getD i.toNat 0).toNat)) else none
    | .arr n e, .agg cs, .int _ i => if 0 ≤ i ∧ i < n ∧ (E.ty e).ok = true then v (takeCells (isAgg (E.ty e).u) (E.ty e).size (i.toNat * (E.ty e).size) cs) else none
    | _, _, _ => none

def opLookup (E : Env) (md : Bool) (f : FuncId) (o : Oper) (ev : Operand → AVal) (lv : Lv) (H : Hp) (T : TypeId) (m k : Operand) (ok : Bool) : Option (AVal × Lv × Hp) :=
  let v := keepA lv H
  let v2 := newV lv
  match (E.ty T).u with
    | .map kt e =>
      if !(E.ty e).ok || !(E.ty e).zok then none else
      let z : AVal := (E.ty e).zv
      match (if E.keyFit kt (ev k) then foundA H kt (ev m) (ev k) else none) with
      | some r => v (some (if ok then .tuple [r.getD z, .bool r.isSome] else r.getD z))
      | none => none
    | _ => none

def opMapUpdate (E : Env) (md : Bool) (f : FuncId) (o : Oper) (ev : Operand → AVal) (lv : Lv) (H : Hp) (T : TypeId) (m k x : Operand) : Option (AVal × Lv × Hp) :=
  let v := keepA lv H
  let v2 := newV lv
  match (E.ty T).u, ev m with
    | .map kt _, .map id => match H.get id with
      | .map kt' es => if kt' = kt ∧ E.keyFit kt (ev k) = true ∧ (ev x).handed = true then (match updE (ev k) (ev x) es with
        | some es' => some (.undef, lv, H.set id (.map kt es'))
        | none => none) else none
      | _ => none
    | _, _ => none

def opRange (E : Env) (md : Bool) (f : FuncId) (o : Oper) (ev : Operand → AVal) (lv : Lv) (H : Hp) (T : TypeId) (x : Operand) : Option (AVal × Lv × Hp) :=
  let v := keepA lv H
  let v2 := newV lv
  match (E.ty T).u, ev x with
    | .str, .str s => v2 (H.alloc (.siter s 0)) .iter
    | _, _ => none

def opNext (E : Env) (md : Bool) (f : FuncId) (o : Oper) (ev : Operand → AVal) (lv : Lv) (H : Hp) (it : Operand) (isString : Bool) : Option (AVal × Lv × Hp) :=
  let v := keepA lv H
  let v2 := newV lv
  if isString then match ev it with
    | .iter id => match H.get id with
      | .siter s pos =>
        if pos < s.size then
          let (c, width) := Utf8.decode s pos
          some (.tuple [.bool true, .int .i64 pos, .int .i32 c], lv, H.set id (.siter s (pos + width)))
        else some (.tuple [.bool false], lv, H)
      | _ => none
    | _ => none
    else none

def opExtract (E : Env) (md : Bool) (f : FuncId) (o : Oper) (ev : Operand → AVal) (lv : Lv) (H : Hp) (t : Operand) (i : Nat) : Option (AVal × Lv × Hp) :=
  let v := keepA lv H
  let v2 := newV lv
  match ev t with
    | .tuple vs => v vs[i]?
    | _ => none

def opAppendB (E : Env) (md : Bool) (f : FuncId) (o : Oper) (ev : Operand → AVal) (lv : Lv) (H : Hp) (c : Call) : Option (AVal × Lv × Hp) :=
  let v := keepA lv H
  match c.args.toList, c.argTypes.toList with
      | [s, x], [T, xT] => if (ev s).handed && (ev x).handed then (match appendA E (wrOf E md f o) T xT H (ev s) (ev x) with
        | some (r, H) => some (r, lv, H)
        | none => none) else none
      | _, _ => none

def opCopyB (E : Env) (md : Bool) (f : FuncId) (o : Oper) (ev : Operand → AVal) (lv : Lv) (H : Hp) (c : Call) : Option (AVal × Lv × Hp) :=
  let v := keepA lv H
  match c.args.toList, c.argTypes.toList with
      | [d, s], T :: _ => if (ev d).handed && (ev s).handed then (match copyA E T H (ev d) (ev s) with
        | some (r, H) => some (r, lv, H)
        | none => none) else none
      | _, _ => none

def opLenB (E : Env) (md : Bool) (f : FuncId) (o : Oper) (ev : Operand → AVal) (lv : Lv) (H : Hp) (c : Call) : Option (AVal × Lv × Hp) :=
  let v := keepA lv H
  match c.args.toList, c.argTypes.toList with
      | [x], T :: _ => match (E.ty T).u, ev x with
        | .arr n _, _ => v (some (.int .i64 n))
        | .map .., .nilmap => v (some (.int .i64 0))
        | .map .., .map id => match H.get id with
          | .map _ es => v (some (.int .i64 es.length))
          | _ => none
        | .str, .str s => v (some (.int .i64 s.size))
        | .slice _, x => v ((dstLen x).map fun n => .int .i64 n)
        | _, _ => none
      | _, _ => none

def opCapB (E : Env) (md : Bool) (f : FuncId) (o : Oper) (ev : Operand → AVal) (lv : Lv) (H : Hp) (c : Call) : Option (AVal × Lv × Hp) :=
  let v := keepA lv H
  match c.args.toList, c.argTypes.toList with
      | [x], T :: _ => match (E.ty T).u, ev x with
        | .slice _, .nilslice => v (some (.int .i64 0))
        | .slice _, .list xs .full _ => v (some (.int .i64 xs.length))
        | _, _ => none
      | _, _ => none

def opMaxB (E : Env) (md : Bool) (f : FuncId) (o : Oper) (ev : Operand → AVal) (lv : Lv) (H : Hp) (c : Call) : Option (AVal × Lv × Hp) :=
  let v := keepA lv H
  match c.args.toList.map ev with
      | .int k a :: rest => v (foldInt (fun a b => if b > a then b else a) k a rest)
      | _ => none

def opMinB (E : Env) (md : Bool) (f : FuncId) (o : Oper) (ev : Operand → AVal) (lv : Lv) (H : Hp) (c : Call) : Option (AVal × Lv × Hp) :=
  let v := keepA lv H
  match c.args.toList.map ev with
      | .int k a :: rest => v (foldInt (fun a b => if b < a then b else a) k a rest)
      | _ => none

def opClearB (E : Env) (md : Bool) (f : FuncId) (o : Oper) (ev : Operand → AVal) (lv : Lv) (H : Hp) (c : Call) : Option (AVal × Lv × Hp) :=
  let v := keepA lv H
  match c.args.toList, c.argTypes.toList with
      | [x], T :: _ => match (E.ty T).u, ev x with
        | .slice e, .sl id off len sz => match H.get id with
          | .cells cs => if (E.ty e).ok = true ∧ (E.ty e).zok = true ∧ sz = (E.ty e).size then (match setCells off (repl len (E.ty e).zero) cs with
            | some cs' => some (.tuple [], lv, H.set id (.cells cs'))
            | none => none) else none
          | _ => none
        | .map .., .map id => match H.get id with
          | .map kt _ => some (.tuple [], lv, H.set id (.map kt []))
          | _ => none
        | _, .nilslice => if (E.ty T).ok then v (some (.tuple [])) else none
        | _, _ => none
      | _, _ => none

/-- the value of the result, the frame and the heap behind an operation -/
def evalOp (E : Env) (md : Bool) (f : FuncId) (o : Oper) (ev : Operand → AVal) (lv : Lv) (H : Hp) : Option (AVal × Lv × Hp) :=
  match o.op with
  | .move x | .assign x => opMove E md f o ev lv H x
  | .pick c a b => opPick E md f o ev lv H c a b
  | .alloc T => opAlloc E md f o ev lv H T
  | .box T x => opBox E md f o ev lv H T x
  | .build T ps => opBuild E md f o ev lv H T ps
  | .buildSlice T n ps => opBuildSlice E md f o ev lv H T n ps
  | .load T a => opLoad E md f o ev lv H T a
  | .store T a x => opStore E md f o ev lv H T a x
  | .nilCheck x => opNilCheck E md f o ev lv H x
  | .binOp op T x y _ => opBinOp E md f o ev lv H op T x y
  | .unOp op _ x => opUnOp E md f o ev lv H op x
  | .convert s d x => opConvert E md f o ev lv H s d x
  | .makeInterface T x => opMakeInterface E md f o ev lv H T x
  | .makeFunc fn first captured => opMakeFunc E md f o ev lv H fn first captured
  | .makeMap T none => opMakeMap E md f o ev lv H T
  | .makeSlice T l c => opMakeSlice E md f o ev lv H T l c
  | .slice T x lo hi mx => opSlice E md f o ev lv H T x lo hi mx
  | .fieldAddr T x k => opFieldAddr E md f o ev lv H T x k
  | .field T x k => opField E md f o ev lv H T x k
  | .indexAddr T x ix => opIndexAddr E md f o ev lv H T x ix
  | .index T x ix => opIndex E md f o ev lv H T x ix
  | .lookup T m k ok => opLookup E md f o ev lv H T m k ok
  | .mapUpdate T m k x | .insert T m k x => opMapUpdate E md f o ev lv H T m k x
  | .range T x => opRange E md f o ev lv H T x
  | .next it isString => opNext E md f o ev lv H it isString
  | .extract t i => opExtract E md f o ev lv H t i
  | .call c => match c.callee with
    | .builtin .append => opAppendB E md f o ev lv H c
    | .builtin .copy => opCopyB E md f o ev lv H c
    | .builtin .len => opLenB E md f o ev lv H c
    | .builtin .cap => opCapB E md f o ev lv H c
    | .builtin .max => opMaxB E md f o ev lv H c
    | .builtin .min => opMinB E md f o ev lv H c
    | .builtin .clear => opClearB E md f o ev lv H c
    | _ => none
  | _ => none

end
end Go.Rs
end
/- Calls, regions, code. -/
section
namespace Go.Rs
noncomputable section

/-! ## Calls -/
/-- the function that a call comes to, and its arguments -/
def target (E : Env) (o : Oper) (ev : Operand → AVal) : Option (FuncId × List AVal) :=
  match o.op with
  | .call c =>
    let args := c.args.toList.map ev
    match c.callee with
    | .builtin _ => none
    | .value fv => match ev fv with
      | .func (.func g) a b => some (g, a ++ args ++ b)
      | .func (.method name) (.iface t r :: a) _ => match (E.ty t).meth name with
        | some g => some (g, r :: (a ++ args))
        | none => none
      | _ => none
    | .invoke r name => match ev r with
      | .iface t r => match (E.ty t).meth name with
        | some g => some (g, r :: args)
        | none => none
      | _ => none
  | _ => none

def isCall (o : Oper) : Bool :=
  match o.op with
  | .call { callee := .builtin _, .. } => false
  | .call _ => true
  | _ => false

def wantedA (ops : List Oper) (tm : Tr AVal) (o : Oper) : Option Bool :=
  match o.guard with
  | none => some true
  | some (j, w) => match (ops[j]?).bind (·.dst) with
    | some d => match tm.get d with
      | some (.bool b) => some (b == w)
      | some .undef => some false
      | _ => none
    | none => none

abbrev CallF := Bool → FuncId → List AVal → Hp → Option (AVal × Hp)

/-- only what yields nothing yields .undef -/
def resOk (o : Oper) (r : AVal) : Bool :=
  match r with
  | .undef => match o.op with
    | .store .. | .mapUpdate .. | .insert .. => true
    | _ => false
  | _ => true

/-- what an operation comes to: its value, the frame's variables, the heap -/
def actA (E : Env) (call : CallF) (md : Bool) (f : FuncId) (o : Oper) (ev : Operand → AVal) (lv : Lv) (H : Hp) : Option (AVal × Lv × Hp) :=
  if isCall o then
    match target E o ev with
    | none => none
    | some (g, args) =>
      if args.all (·.handed) then
        match call (md || E.up f) g args H with
        | some (.undef, _) => none
        | some (r, H) => some (r, lv, H)
        | none => none
      else none
  else match evalOp E md f o ev lv H with
    | some (r, lv, H) => if resOk o r then some (r, lv, H) else none
    | none => none

/-- one operation, wanted or not -/
def stepA (E : Env) (call : CallF) (md : Bool) (f : FuncId) (ops : List Oper) (o : Oper) (tm : Tr AVal) (lv : Lv) (H : Hp) : Option (AVal × Lv × Hp) :=
  match wantedA ops tm o with
  | some false => some (.undef, lv, H)
  | some true => actA E call md f o (evT E tm) lv H
  | none => none

def putA (n : Nat) (tm : Tr AVal) (d : Option Tmp) (v : AVal) : Option (Tr AVal) :=
  match d with
  | some d => if d < n ∧ d < maxTmp then some (tm.set d v) else none
  | none => some tm

/-- is it a deferred call of a function that does nothing then? -/
def muteOp (E : Env) (o : Oper) (tm : Tr AVal) : Bool :=
  match o.op with
  | .defer c => o.guard.isNone && o.dst.isNone && (match c.callee with
    | .value fv => match evT E tm fv with
      | .func (.func g) _ _ => E.mute g
      | _ => false
    | _ => false)
  | _ => false

/-- in the order of the text -/
def runOps (E : Env) (call : CallF) (md : Bool) (f : FuncId) (ops : List Oper) (n : Nat) : List Oper → Tr AVal → Lv → Hp → Option (Tr AVal × Lv × Hp)
  | [], tm, lv, H => some (tm, lv, H)
  | o :: rest, tm, lv, H => match muteOp E o tm with
    | true => runOps E call md f ops n rest tm lv H
    | false => match stepA E call md f ops o tm lv H with
      | some (r, lv, H) => match putA n tm o.dst r with
        | some tm => runOps E call md f ops n rest tm lv H
        | none => none
      | none => none

/-! ## Regions whose order is drawn -/
/-- what may change the heap or the frame's variables -/
def isEff (o : Oper) : Bool :=
  match o.op with
  | .move _ | .assign _ | .pick .. | .build .. | .buildSlice .. | .load .. | .nilCheck _ | .binOp .. | .unOp .. | .convert .. | .makeInterface .. | .makeFunc ..
  | .slice .. | .fieldAddr .. | .field .. | .indexAddr .. | .index .. | .lookup .. | .extract .. => false
  | .call c => match c.callee with
    | .builtin b => match b with
      | .len | .cap | .max | .min => false
      | _ => true
    | _ => true
  | _ => true

/-- a new object that looks at nothing in the heap -/
def isNew (o : Oper) : Bool :=
  match o.op with
  | .alloc _ | .makeMap _ none | .makeSlice .. => true
  | _ => false

def isMv (o : Oper) : Bool :=
  match o.op with
  | .move _ => true
  | _ => false

/-- may the operation stand ahead of all effects? -/
def hoists (hm : Nat) (o : Oper) : Bool :=
  o.guard.isNone && (isNew o || isMv o) && o.after.toList.all (fun e => !Region.binds .any e || hm.testBit e.on)

def hoistGo (hm i : Nat) : List Oper → List (Nat × Oper × Bool)
  | [] => []
  | o :: rest =>
    if hoists hm o then (i, o, true) :: hoistGo (hm ||| 2 ^ i) (i + 1) rest
    else (i, o, false) :: hoistGo hm (i + 1) rest

/-- the operations with their numbers, new objects first -/
def orderA (ops : List Oper) : List (Nat × Oper × Bool) :=
  let l := hoistGo 0 0 ops
  l.filter (fun x => x.2.2) ++ l.filter (fun x => !x.2.2)

/-- what a read has seen -/
structure Rec where
  o : Oper
  tm : Tr AVal
  r : AVal
  lo : Nat
  hi : Nat

def askOf (ask : List (Nat × Nat × Nat)) (i : Nat) : Option (Nat × Nat) :=
  match ask with
  | [] => none
  | (j, x) :: rest => if j = i then some x else askOf rest i

/-- states behind each effect (the newest first), and what the asked reads have seen -/
def runDraw (E : Env) (call : CallF) (md : Bool) (f : FuncId) (ops : List Oper) (n : Nat) (ask : List (Nat × Nat × Nat)) :
    List (Nat × Oper × Bool) → Tr AVal → Lv → Hp → List (Lv × Hp) → List Rec → Option (Tr AVal × Lv × Hp × List (Lv × Hp) × List Rec)
  | [], tm, lv, H, sts, rs => some (tm, lv, H, sts, rs)
  | (i, o, h) :: rest, tm, lv, H, sts, rs => match stepA E call md f ops o tm lv H with
    | some (r, lv', H') => match putA n tm o.dst r with
      | some tm' =>
        let sts' := if isEff o && !h then (lv, H) :: sts else sts
        let rs' := match askOf ask i with
          | some (lo, hi) => { o, tm, r, lo, hi } :: rs
          | none => rs
        runDraw E call md f ops n ask rest tm' lv' H' sts' rs'
      | none => none
    | none => none

/-! ## Are two values one? -/
mutual
def sameA : AVal → AVal → Bool
  | .bool a, .bool b => a == b
  | .int j a, .int k b => j == k && a == b
  | .str a, .str b => decide (a = b)
  | .nilptr, .nilptr => true
  | .ptr a b, .ptr c d => a == c && b == d
  | .lptr a b, .lptr c d => a == c && b == d
  | .eptr xs i o, .eptr ys j p => i == j && o == p && sameAs xs ys
  | .nilslice, .nilslice => true
  | .list xs t s, .list ys u z => decide (t = u) && s == z && sameAs xs ys
  | .sl a b c d, .sl e f g h => a == e && b == f && c == g && d == h
  | .nilmap, .nilmap => true
  | .map a, .map b => a == b
  | .nilfunc, .nilfunc => true
  | .iface t v, .iface u x => t == u && sameA v x
  | .niliface, .niliface => true
  | .agg xs, .agg ys => sameAs xs ys
  | .tuple xs, .tuple ys => sameAs xs ys
  | _, _ => false
def sameAs : List AVal → List AVal → Bool
  | [], [] => true
  | x :: xs, y :: ys => sameA x y && sameAs xs ys
  | _, _ => false
end

/-- the read sees the same in all these states -/
def askAll (E : Env) (md : Bool) (f : FuncId) (o : Oper) (ev : Operand → AVal) (r : AVal) : List (Lv × Hp) → Bool
  | [] => true
  | (lv, H) :: rest => (match evalOp E md f o ev lv H with
    | some (r', _, _) => sameA r r'
    | none => false) && askAll E md f o ev r rest

def askRecs (E : Env) (md : Bool) (f : FuncId) (ops : List Oper) (sts : List (Lv × Hp)) : List Rec → Bool
  | [] => true
  | x :: rest => (match wantedA ops x.tm x.o with
    | some true => askAll E md f x.o (evT E x.tm) x.r ((sts.take (x.hi + 1)).drop x.lo)
    | some false => true
    | none => false) && askRecs E md f ops sts rest

/-! ## Code -/
inductive AExit where
  | normal
  | exit (id : Nat)
  | ret
  deriving DecidableEq, Inhabited, Repr

def AExit.leaves : AExit → Bool
  | .exit _ => false
  | _ => true

abbrev St := Fr × Hp

def iterA (body : St → Option (AExit × St)) : Nat → St → Option (AExit × St)
  | 0, _ => none
  | n + 1, st => match body st with
    | some (.normal, st') => iterA body n st'
    | some (.exit id, st') => some (.exit id, st')
    | some (.ret, st') => some (.ret, st')
    | none => none

def regionA (E : Env) (call : CallF) (md : Bool) (f : FuncId) (id : Nat) (ops : List Oper) (draw : Bool) (fr : Fr) (H : Hp) : Option (Fr × Hp) :=
  if draw then
    match runDraw E call md f ops fr.n (E.ask f id) (orderA ops) fr.tm fr.lv H [] [] with
    | some (tm, lv, H, sts, rs) =>
      match rs with
      | [] => some ({ fr with tm := tm, lv := lv }, H)
      | _ => if askRecs E md f ops (((lv, H) :: sts).reverse) rs then some ({ fr with tm := tm, lv := lv }, H) else none
    | none => none
  else
    match runOps E call md f ops fr.n ops fr.tm fr.lv H with
    | some (tm, lv, H) => some ({ fr with tm := tm, lv := lv }, H)
    | none => none

def evalCode (E : Env) (call : CallF) (md : Bool) (f : FuncId) : Code → St → Option (AExit × St)
  | .skip, st => some (.normal, st)
  | .region id ops draw, st =>
    match regionA E call md f id ops.toList draw st.1 st.2 with
    | some st => some (.normal, st)
    | none => none
  | .seq a b, st => match evalCode E call md f a st with
    | some (.normal, st') => evalCode E call md f b st'
    | some (.exit id, st') => some (.exit id, st')
    | some (.ret, st') => some (.ret, st')
    | none => none
  | .cond c a b, st => match evT E st.1.tm c with
    | .bool true => evalCode E call md f a st
    | .bool false => evalCode E call md f b st
    | _ => none
  | .block id b, st => match evalCode E call md f b st with
    | some (.exit id', st') => if id' = id then some (.normal, st') else some (.exit id', st')
    | some (.normal, st') => some (.normal, st')
    | some (.ret, st') => some (.ret, st')
    | none => none
  | .loop b, st => iterA (evalCode E call md f b) E.loops st
  | .exit id, st => some (.exit id, st)
  | .ret, st => some (.ret, st)
  | _, _ => none

def results (E : Env) (tm : Tr AVal) (lv : Lv) (H : Hp) : List ResultVar → Option (List AVal)
  | [] => some []
  | r :: rest =>
    let x := match r with
      | .tmp t => some ((tm.get t).getD .undef)
      | .cell a T => loadA E T lv H ((tm.get a).getD .undef)
    match x, results E tm lv H rest with
    | some x, some xs => if x.handed then some (x :: xs) else none
    | _, _ => none

/-- a slice over a whole object, laid as a list: the object is given up -/
def freeze1 (k : Hp → List AVal → List AVal × Hp) (H : Hp) (v : AVal) : AVal × Hp :=
  match v with
  | .sl id 0 len sz => match H.get id with
    | .cells cs => if len * sz = cs.length ∧ len * sz ≠ 0 then
        let x := k H cs
        match x.2.get id with
        | .cells _ => (.list (groups sz (sz != 1) len x.1) .none sz, x.2.set id .dead)
        | _ => (v, x.2)
      else (v, H)
    | _ => (v, H)
  | .agg cs => let x := k H cs; (.agg x.1, x.2)
  | .list xs tok sz => let x := k H xs; (.list x.1 tok sz, x.2)
  | _ => (v, H)

def freezeN : Nat → Hp → List AVal → List AVal × Hp
  | 0, H, vs => (vs, H)
  | _ + 1, H, [] => ([], H)
  | n + 1, H, v :: vs =>
    let r := freeze1 (freezeN n) H v
    let x := freezeN n r.2 vs
    (r.1 :: x.1, x.2)

/-- a slice stays, what lies in it is laid as lists -/
def freezeIn (H : Hp) (v : AVal) : Hp :=
  match v with
  | .sl id _ _ _ => match H.get id with
    | .cells cs =>
      let x := freezeN 1000 H cs
      match x.2.get id with
      | .cells _ => x.2.set id (.cells x.1)
      | _ => x.2
    | _ => H
  | _ => H

def freezeIns : Hp → List AVal → Hp
  | H, [] => H
  | H, v :: vs => freezeIns (freezeIn H v) vs

def freezeT1 (H : Hp) (v : AVal) : Hp :=
  match v with
  | .agg cs => freezeIns H cs
  | v => freezeIn H v

def freezeTop : Hp → List AVal → Hp
  | H, [] => H
  | H, v :: vs => freezeTop (freezeT1 H v) vs

def params : Nat → List AVal → Tr AVal → Tr AVal
  | _, [], t => t
  | i, a :: as, t => params (i + 1) as (t.set i a)

def packA : List AVal → AVal
  | [x] => x
  | vs => .tuple vs

def evalCall (E : Env) : Nat → CallF
  | 0 => fun _ _ _ _ => none
  | n + 1 => fun md f args H =>
    match E.spec md f with
    | some s => s args H
    | none =>
      match E.fn f with
      | none => none
      | some fn => match fn.body with
        | none => none
        | some c =>
          if args.length < maxTmp then
            match evalCode E (evalCall E n) md f c (⟨params 0 args .nil, ⟨.nil, 0⟩, max fn.ntmps args.length⟩, H) with
            | none => none
            | some (ex, st) => if ex.leaves then
                match results E st.1.tm st.1.lv st.2 fn.results.toList with
                | none => none
                | some vs => if E.frz md f then (let r := freezeN 1000 st.2 vs; some (packA r.1, r.2)) else if E.frzIn f then some (packA vs, freezeTop st.2 vs) else some (packA vs, st.2)
              else none
          else none

end
end Go.Rs
end
/- The tables of the seat. MADE BY PROGRAM (run2.lean.txt). -/
section
namespace Go.Rs.Seat

def locL : List (Nat × List Nat) := [(3, [6]), (4, [8]), (5, [6]), (6, [1, 2, 3, 4, 5, 6]), (9, [4, 5]), (10, [5]), (11, [2, 5]), (13, [2]), (15, [2, 3]), (17, [2, 3]), (18, [3, 7]), (19, [4]), (20, [1, 2, 4, 6, 9]), (21, [1, 4, 5, 8, 10, 12]), (22, [1]), (24, [10]), (26, [4, 5]), (28, [2, 8]), (29, [2, 7]), (31, [2, 3]), (32, [2, 3]), (33, [1, 2, 7, 9, 11]), (34, [1, 2, 4]), (35, [1, 2, 5, 7, 9]), (36, [1, 2, 10]), (38, [2, 3, 6]), (39, [3, 9, 10, 14, 18, 22, 24, 26]), (40, [8, 9]), (41, [3]), (42, [4]), (43, [10, 11]), (44, [1, 2, 5]), (46, [4]), (48, [2]), (49, [2, 3]), (51, [2]), (52, [3, 4, 9]), (54, [1]), (55, [1, 5, 7, 9, 11, 13, 15]), (56, [1, 6, 8]), (57, [10]), (59, [2, 7, 11, 14, 17, 19]), (60, [1, 2]), (61, [1, 2, 3, 4, 5]), (62, [1, 2, 3, 5, 7]), (63, [1, 5]), (65, [2, 4]), (66, [4, 5, 6, 14]), (67, [1, 2]), (68, [4, 7, 9, 10]), (69, [1, 2]), (70, [2, 4, 6]), (71, [1]), (72, [1, 2, 3, 5]), (73, [2]), (75, [7]), (76, [1, 2]), (79, [6]), (80, [1]), (81, [6]), (82, [1]), (83, [6]), (84, [1]), (85, [6]), (86, [1]), (87, [6]), (88, [1]), (89, [6]), (90, [1]), (91, [5, 6]), (92, [3, 10]), (93, [12, 15]), (95, [3]), (96, [3]), (98, [7]), (99, [1, 2]), (100, [7]), (101, [1, 2]), (102, [7]), (103, [1, 2]), (104, [7]), (105, [1, 2]), (106, [7]), (107, [1, 2]), (108, [1]), (109, [1]), (110, [1, 2, 5, 6]), (111, [1, 2]), (112, [1, 2]), (113, [1]), (114, [1, 4]), (115, [2, 7]), (116, [1]), (117, [2, 7]), (118, [1]), (120, [1]), (121, [2, 3]), (123, [7]), (129, [7]), (131, [2, 4, 6]), (132, [7]), (133, [1, 2]), (134, [3, 8]), (143, [6]), (144, [1]), (146, [1, 3]), (147, [1]), (148, [2]), (149, [2]), (151, [2]), (153, [3, 4, 7, 10, 11, 13]), (157, [3]), (158, [3]), (160, [3]), (161, [3]), (162, [4]), (163, [7]), (164, [7]), (165, [1, 2]), (166, [7]), (167, [1, 2]), (168, [3, 6, 8, 10]), (169, [2]), (170, [4, 5, 6, 9]), (171, [7]), (172, [7]), (173, [1, 2]), (175, [1, 8, 11]), (177, [2, 3]), (179, [5]), (180, [1]), (182, [2, 3]), (183, [1]), (191, [6]), (192, [1]), (193, [1, 5, 7]), (194, [1, 5, 7]), (195, [2]), (196, [2]), (198, [4]), (200, [3, 4, 10]), (201, [3, 7]), (202, [1, 5]), (203, [4, 6, 7, 8]), (205, [4]), (210, [4, 9]), (212, [3]), (213, [1]), (214, [5]), (215, [6]), (216, [1, 3]), (219, [3]), (223, [8, 9]), (224, [2, 3]), (225, [1, 5]), (229, [1, 5]), (230, [1, 5]), (231, [1]), (232, [1]), (233, [6]), (234, [2]), (235, [6]), (236, [2]), (237, [1]), (239, [2]), (240, [1, 2, 3, 5, 8]), (241, [2, 9]), (242, [5, 6, 13]), (244, [2]), (259, [6]), (262, [2]), (308, [9]), (332, [3]), (333, [3, 4, 7]), (334, [3]), (335, [3, 5, 8]), (336, [4, 5]), (338, [5]), (339, [6, 7, 11]), (340, [1, 2]), (341, [5, 6, 8]), (343, [5]), (344, [3, 4, 9]), (348, [4]), (349, [4]), (351, [5]), (352, [6, 11]), (353, [6, 8, 10]), (354, [6]), (355, [1, 2, 3, 5]), (357, [3]), (359, [2]), (360, [0]), (361, [4, 11]), (362, [2]), (363, [1, 2]), (364, [1, 2]), (365, [2, 3]), (366, [2, 6]), (368, [2, 3, 7]), (369, [2, 6])]

def wrL : List (Nat × Nat) := [(74, 22), (102, 19), (104, 19), (106, 19), (59, 73), (43, 107), (152, 30), (200, 32), (240, 24), (240, 34), (240, 47), (96, 12), (263, 7), (114, 21)]
def wrmL : List (Nat × Nat) := [(47, 7)]
def frzL : List Nat := [50, 35, 20, 257, 33, 36]
def frzIL : List Nat := [34]
def muteL : List Nat := [94]
def upL : List Nat := [115, 65]

def askL : List (Nat × List (Nat × List (Nat × Nat × Nat))) := [(4, [(10, [(2, (0, 1))]), (9, [(4, (0, 1))])]), (5, [(8, [(2, (0, 1))])]), (6, [(5, [(4, (0, 2))])]), (9, [(6, [(1, (0, 1))])]), (20, [(10, [(1, (0, 1))])]), (26, [(17, [(1, (0, 1))])]), (28, [(14, [(1, (0, 2))])]), (29, [(18, [(0, (0, 2))]), (12, [(2, (0, 1))])]), (33, [(21, [(4, (0, 1)), (6, (0, 1)), (8, (0, 1)), (10, (0, 1))]), (10, [(5, (0, 1)), (8, (0, 1)), (11, (0, 1))])]), (35, [(14, [(1, (0, 1))]), (19, [(1, (0, 1))]), (8, [(1, (0, 1)), (5, (0, 1))])]), (39, [(41, [(3, (0, 1))]), (1, [(2, (0, 1))])]), (43, [(7, [(4, (0, 1))])]), (44, [(7, [(1, (0, 1))])]), (60, [(5, [(4, (0, 1))])]), (61, [(6, [(5, (0, 1)), (7, (0, 1))])]), (62, [(12, [(1, (0, 2)), (6, (0, 1))]), (7, [(1, (0, 1))])]), (63, [(7, [(2, (0, 1))])]), (67, [(3, [(4, (0, 1)), (7, (0, 2))]), (1, [(4, (0, 1))])]), (70, [(23, [(4, (0, 2))])]), (72, [(7, [(1, (0, 1))])]), (82, [(3, [(4, (0, 1))])]), (90, [(3, [(4, (0, 1)), (7, (0, 2))])]), (95, [(27, [(1, (0, 1))])]), (101, [(1, [(1, (0, 1))])]), (103, [(1, [(4, (0, 1))]), (2, [(4, (0, 1)), (7, (0, 2))])]), (105, [(1, [(1, (0, 1)), (3, (0, 1))])]), (107, [(2, [(4, (0, 1)), (7, (0, 2))])]), (110, [(10, [(5, (0, 1)), (9, (1, 2))])]), (115, [(8, [(1, (0, 1))]), (14, [(1, (0, 1)), (3, (0, 1))])]), (121, [(15, [(1, (0, 1))]), (17, [(1, (0, 1))])]), (147, [(3, [(4, (0, 1)), (7, (0, 2)), (10, (0, 3))])]), (152, [(5, [(3, (0, 1))])]), (153, [(29, [(1, (0, 1))]), (25, [(1, (0, 1))]), (23, [(1, (0, 1))]), (18, [(1, (0, 1)), (3, (0, 1))]), (24, [(1, (0, 1))])]), (160, [(5, [(3, (0, 1))])]), (161, [(8, [(3, (0, 2))])]), (165, [(1, [(1, (0, 1))])]), (168, [(28, [(5, (0, 1))])]), (170, [(8, [(7, (0, 2))])]), (173, [(1, [(4, (0, 1))])]), (193, [(10, [(5, (0, 1))])]), (194, [(10, [(5, (0, 1))])]), (195, [(10, [(4, (0, 1))])]), (209, [(1, [(5, (0, 1))])]), (210, [(4, [(4, (0, 1))])]), (222, [(5, [(3, (0, 1))])]), (224, [(1, [(1, (0, 1))])]), (232, [(1, [(1, (0, 1)), (7, (0, 1)), (10, (0, 1))])]), (240, [(5, [(1, (0, 1))])]), (244, [(7, [(2, (0, 1))])]), (340, [(1, [(4, (0, 1))])]), (341, [(20, [(2, (0, 1)), (6, (0, 1))]), (27, [(2, (0, 1)), (6, (0, 1)), (8, (0, 1))]), (22, [(1, (0, 1))])]), (351, [(5, [(18, (0, 1))])]), (353, [(21, [(1, (0, 1)), (3, (0, 1)), (5, (0, 1))]), (15, [(2, (0, 2)), (4, (1, 2))]), (19, [(1, (0, 1))])]), (355, [(5, [(1, (0, 1))])])]

end Go.Rs.Seat
end
/- How the interpreter's values, heap and frame stand for the machine's. -/
section
namespace Go.Rs

/-! ## Tries -/
theorem Tr.getD'_zero_leaf {α : Type} (a : α) (i : Nat) : Tr.getD' 0 (.leaf a) i = if i = 0 then some a else none := by
  show cond (Nat.beq i 0) _ _ = _
  by_cases h : i = 0
  · subst h; rfl
  · rw [if_neg h]
    cases hb : Nat.beq i 0 with
    | false => rfl
    | true => exact absurd (Nat.eq_of_beq_eq_true hb) h
theorem Tr.getD'_zero_nil {α : Type} (i : Nat) : Tr.getD' 0 (.nil : Tr α) i = none := rfl
theorem Tr.getD'_zero_node {α : Type} (l r : Tr α) (i : Nat) : Tr.getD' 0 (.node l r) i = none := rfl
theorem Tr.getD'_succ_nil {α : Type} (d i : Nat) : Tr.getD' (d + 1) (.nil : Tr α) i = none := rfl
theorem Tr.getD'_succ_leaf {α : Type} (d : Nat) (a : α) (i : Nat) : Tr.getD' (d + 1) (.leaf a) i = none := rfl
theorem cond_beq {β : Type} (m : Nat) (x y : β) : cond (Nat.beq m 0) x y = if m = 0 then x else y := by
  by_cases h : m = 0
  · subst h; rfl
  · rw [if_neg h]
    cases hb : Nat.beq m 0 with
    | false => rfl
    | true => exact absurd (Nat.eq_of_beq_eq_true hb) h
theorem Tr.getD'_succ_node {α : Type} (d : Nat) (l r : Tr α) (i : Nat) : Tr.getD' (d + 1) (.node l r) i = if i % 2 = 0 then Tr.getD' d l (i / 2) else Tr.getD' d r (i / 2) := cond_beq _ _ _
theorem Tr.setD'_zero {α : Type} (t : Tr α) (i : Nat) (a : α) : Tr.setD' 0 t i a = if i = 0 then .leaf a else t := cond_beq _ _ _
theorem Tr.setD'_nil {α : Type} (d i : Nat) (a : α) : Tr.setD' (d + 1) .nil i a = if i % 2 = 0 then .node (Tr.setD' d .nil (i / 2) a) .nil else .node .nil (Tr.setD' d .nil (i / 2) a) := cond_beq _ _ _
theorem Tr.setD'_leaf {α : Type} (d : Nat) (b : α) (i : Nat) (a : α) : Tr.setD' (d + 1) (.leaf b) i a = if i % 2 = 0 then .node (Tr.setD' d .nil (i / 2) a) .nil else .node .nil (Tr.setD' d .nil (i / 2) a) := cond_beq _ _ _
theorem Tr.setD'_node {α : Type} (d : Nat) (l r : Tr α) (i : Nat) (a : α) : Tr.setD' (d + 1) (.node l r) i a = if i % 2 = 0 then .node (Tr.setD' d l (i / 2) a) r else .node l (Tr.setD' d r (i / 2) a) := cond_beq _ _ _

theorem Tr.getD'_nil {α : Type} (d i : Nat) : Tr.getD' d (.nil : Tr α) i = none := by cases d <;> rfl

theorem Tr.get_set' {α : Type} (a : α) : ∀ (d : Nat) (t : Tr α) (i j : Nat), i < 2 ^ d →
    Tr.getD' d (Tr.setD' d t i a) j = if i = j then some a else Tr.getD' d t j
  | 0, t, i, j, h => by
    have : i = 0 := by simpa using h
    subst this
    rw [Tr.setD'_zero, if_pos rfl, Tr.getD'_zero_leaf]
    by_cases hj : j = 0
    · subst hj; simp
    · cases t <;> simp [Tr.getD'_zero_leaf, Tr.getD'_zero_nil, Tr.getD'_zero_node, hj, Ne.symm hj]
  | d + 1, t, i, j, h => by
    have h2 : i / 2 < 2 ^ d := by rw [Nat.pow_succ] at h; omega
    have hij : i % 2 = j % 2 → (i / 2 = j / 2 ↔ i = j) := fun e => by omega
    cases t with
    | node l r =>
      by_cases hi : i % 2 = 0 <;> by_cases hj : j % 2 = 0 <;> simp only [Tr.setD'_node, hi, hj, if_true, if_false, Tr.getD'_succ_node]
      · rw [Tr.get_set' a d l _ _ h2]; simp only [hij (by omega)]
      · rw [if_neg (by intro e; subst e; exact hj hi)]
      · rw [if_neg (by intro e; subst e; exact hi hj)]
      · rw [Tr.get_set' a d r _ _ h2]; simp only [hij (by omega)]
    | leaf x =>
      by_cases hi : i % 2 = 0 <;> by_cases hj : j % 2 = 0 <;> simp only [Tr.setD'_leaf, hi, hj, if_true, if_false, Tr.getD'_succ_node, Tr.getD'_succ_leaf]
      · rw [Tr.get_set' a d .nil _ _ h2]; simp only [hij (by omega), Tr.getD'_nil]
      · rw [if_neg (by intro e; subst e; exact hj hi), Tr.getD'_nil]
      · rw [if_neg (by intro e; subst e; exact hi hj), Tr.getD'_nil]
      · rw [Tr.get_set' a d .nil _ _ h2]; simp only [hij (by omega), Tr.getD'_nil]
    | nil =>
      by_cases hi : i % 2 = 0 <;> by_cases hj : j % 2 = 0 <;> simp only [Tr.setD'_nil, hi, hj, if_true, if_false, Tr.getD'_succ_node, Tr.getD'_succ_nil]
      · rw [Tr.get_set' a d .nil _ _ h2]; simp only [hij (by omega), Tr.getD'_nil]
      · rw [if_neg (by intro e; subst e; exact hj hi), Tr.getD'_nil]
      · rw [if_neg (by intro e; subst e; exact hi hj), Tr.getD'_nil]
      · rw [Tr.get_set' a d .nil _ _ h2]; simp only [hij (by omega), Tr.getD'_nil]

theorem Tr.get_set {α : Type} (t : Tr α) (i j : Nat) (a : α) (h : i < 2 ^ 12) :
    (t.set i a).get j = if i = j then some a else t.get j := Tr.get_set' a 12 t i j h


theorem Lv.get_set (l : Lv) (i j : Nat) (a : List AVal) (h : i < maxTmp) : (l.set i a).get j = if i = j then some a else l.get j := Tr.get_set _ _ _ _ h
theorem Lv.get_push (l : Lv) (j : Nat) (a : List AVal) (h : l.next < maxTmp) : (l.push a).get j = if l.next = j then some a else l.get j := Tr.get_set _ _ _ _ h
@[simp] theorem Lv.next_set (l : Lv) (i : Nat) (a : List AVal) : (l.set i a).next = l.next := rfl
@[simp] theorem Lv.next_push (l : Lv) (a : List AVal) : (l.push a).next = l.next + 1 := rfl

/-! ## The ghost: where objects lie, how much of a block is never written again, where tokens end -/
structure Gh where
  /-- the keys of a type, constant -/
  kp : TypeId → Value → Prop
  mu : Nat → Option Nat
  lim : Nat → Nat
  ka : Nat → Nat

def sizeAt (w : World) (b : Nat) : Nat :=
  match w.heap[b]? with
  | some (.cells c _ _) => c.size
  | _ => 0

/-- a row of cells that may be written -/
def rowIs (w : World) (b : Nat) (arr : Array Value) : Prop := ∃ e, w.heap[b]? = some (.cells arr e (0, 0))

/-- a value that lies in so many cells -/
def Fit (sz : Nat) (x : AVal) : Prop := x.cells.length = sz ∧ ∀ a ∈ x.cells, a.oneCell = true

def tokOk (g : Gh) (b o n sz cap : Nat) : Tok → Prop
  | .none => True
  | .full => cap = n
  | .own t => (∃ b', g.mu t = some b') ∧ (cap = n ∨ (g.mu t = some b ∧ g.ka t = o + n * sz))

inductive VRel (g : Gh) (w : World) : AVal → Value → Prop
  | undef (c : Value) : VRel g w .undef c
  | bool (b : Bool) : VRel g w (.bool b) (.bool b)
  | int (k : IntKind) (n : Int) : VRel g w (.int k n) (.int k n)
  | str (s : ByteArray) : VRel g w (.str s) (.string s)
  | nilptr : VRel g w .nilptr (.pointer none)
  | ptr {id b : Nat} (off : Nat) (h : g.mu id = some b) : VRel g w (.ptr id off) (.pointer (some ⟨b, off, none⟩))
  | eptr {xs : List AVal} (i off : Nat) (b o sz : Nat) (f : Nat → Value)
      (hl : o + xs.length * sz ≤ g.lim b) (hs : ∀ x ∈ xs, Fit sz x)
      (hc : ∀ k, k < xs.length * sz → w.cell? ⟨b, o + k, none⟩ = some (f k))
      (hv : ∀ (i : Nat) x (j : Nat) a, xs[i]? = some x → x.cells[j]? = some a → VRel g w a (f (i * sz + j))) :
      VRel g w (.eptr xs i off) (.pointer (some ⟨b, o + i * sz + off, none⟩))
  | nilslice : VRel g w .nilslice (.slice none 0 0)
  | list {xs : List AVal} {sz : Nat} (tok : Tok) (b o cap : Nat) (f : Nat → Value)
      (hl : o + xs.length * sz ≤ g.lim b) (hs : ∀ x ∈ xs, Fit sz x)
      (hc : ∀ k, k < xs.length * sz → w.cell? ⟨b, o + k, none⟩ = some (f k))
      (hv : ∀ (i : Nat) x (j : Nat) a, xs[i]? = some x → x.cells[j]? = some a → VRel g w a (f (i * sz + j)))
      (hcap : xs.length ≤ cap) (hrow : o + cap * sz ≤ sizeAt w b) (ht : tokOk g b o xs.length sz cap tok) :
      VRel g w (.list xs tok sz) (.slice (some ⟨b, o, none⟩) xs.length cap)
  | sl {id b : Nat} (off len sz cap : Nat) (h : g.mu id = some b) (hcap : len ≤ cap) (hrow : off + cap * sz ≤ sizeAt w b) :
      VRel g w (.sl id off len sz) (.slice (some ⟨b, off, none⟩) len cap)
  | sl0 {id b b' : Nat} (off off' sz : Nat) (h : g.mu id = some b) : VRel g w (.sl id off 0 sz) (.slice (some ⟨b', off', none⟩) 0 0)
  | nilmap : VRel g w .nilmap (.map none)
  | map {id b : Nat} (h : g.mu id = some b) : VRel g w (.map id) (.map (some b))
  | func (fn : Fn) {fs cs : List AVal} {fs' cs' : List Value} (h1 : fs.length = fs'.length) (h2 : cs.length = cs'.length)
      (hf : ∀ (i : Nat) a c, fs[i]? = some a → fs'[i]? = some c → VRel g w a c) (hc : ∀ (i : Nat) a c, cs[i]? = some a → cs'[i]? = some c → VRel g w a c) :
      VRel g w (.func fn fs cs) (.func fn fs'.toArray cs'.toArray)
  | nilfunc : VRel g w .nilfunc .nilFunc
  | iface (t : TypeId) {v : AVal} {c : Value} (h : VRel g w v c) : VRel g w (.iface t v) (.iface t c)
  | niliface : VRel g w .niliface .nilIface
  | agg {cs : List AVal} {cs' : List Value} (h1 : cs.length = cs'.length) (hc : ∀ (i : Nat) a c, cs[i]? = some a → cs'[i]? = some c → VRel g w a c) :
      VRel g w (.agg cs) (.agg cs'.toArray)
  | tuple {cs : List AVal} {cs' : List Value} (h1 : cs.length = cs'.length) (hc : ∀ (i : Nat) a c, cs[i]? = some a → cs'[i]? = some c → VRel g w a c) :
      VRel g w (.tuple cs) (.tuple cs'.toArray)
  | iter {id b : Nat} (h : g.mu id = some b) : VRel g w (.iter id) (.pointer (some ⟨b, 0, none⟩))

/-- what was so stays so -/
structure Ext (g : Gh) (w : World) (g' : Gh) (w' : World) : Prop where
  kp : g'.kp = g.kp
  mu : ∀ i b, g.mu i = some b → g'.mu i = some b
  ka : ∀ i b, g.mu i = some b → g'.ka i = g.ka i
  lim : ∀ b, g.lim b ≤ g'.lim b
  imm : ∀ b k v, k < g.lim b → w.cell? ⟨b, k, none⟩ = some v → w'.cell? ⟨b, k, none⟩ = some v
  size : ∀ b, sizeAt w b ≤ sizeAt w' b

theorem Ext.refl (g : Gh) (w : World) : Ext g w g w := ⟨rfl, fun _ _ h => h, fun _ _ _ => rfl, fun _ => Nat.le_refl _, fun _ _ _ _ h => h, fun _ => Nat.le_refl _⟩

theorem Ext.trans {g g1 g2 : Gh} {w w1 w2 : World} (h : Ext g w g1 w1) (k : Ext g1 w1 g2 w2) : Ext g w g2 w2 :=
  ⟨k.kp.trans h.kp, fun i b e => k.mu i b (h.mu i b e), fun i b e => (k.ka i b (h.mu i b e)).trans (h.ka i b e), fun b => Nat.le_trans (h.lim b) (k.lim b),
   fun b j v hj e => k.imm b j v (Nat.lt_of_lt_of_le hj (h.lim b)) (h.imm b j v hj e), fun b => Nat.le_trans (h.size b) (k.size b)⟩

theorem tokOk.mono {g : Gh} {w : World} {g' : Gh} {w' : World} (e : Ext g w g' w') {b o n sz cap : Nat} {tok : Tok} (h : tokOk g b o n sz cap tok) : tokOk g' b o n sz cap tok := by
  cases tok with
  | none => trivial
  | full => exact h
  | own t =>
    obtain ⟨⟨b', hb'⟩, h⟩ := h
    refine ⟨⟨b', e.mu t b' hb'⟩, ?_⟩
    rcases h with h | ⟨h1, h2⟩
    · exact .inl h
    · exact .inr ⟨e.mu t b h1, (e.ka t b h1).trans h2⟩

theorem VRel.mono {g : Gh} {w : World} {g' : Gh} {w' : World} (e : Ext g w g' w') {a : AVal} {c : Value} (h : VRel g w a c) : VRel g' w' a c := by
  induction h with
  | undef c => exact .undef c
  | bool b => exact .bool b
  | int k n => exact .int k n
  | str s => exact .str s
  | nilptr => exact .nilptr
  | ptr off h => exact .ptr off (e.mu _ _ h)
  | eptr i off b o sz f hl hs hc hv ih =>
    exact .eptr i off b o sz f (Nat.le_trans hl (e.lim b)) hs (fun k hk => e.imm _ _ _ (by omega) (hc k hk)) ih
  | nilslice => exact .nilslice
  | list tok b o cap f hl hs hc hv hcap hrow ht ih =>
    exact .list tok b o cap f (Nat.le_trans hl (e.lim b)) hs (fun k hk => e.imm _ _ _ (by omega) (hc k hk)) ih hcap (Nat.le_trans hrow (e.size b)) (ht.mono e)
  | sl off len sz cap h hcap hrow => exact .sl off len sz cap (e.mu _ _ h) hcap (Nat.le_trans hrow (e.size _))
  | sl0 off off' sz h => exact .sl0 off off' sz (e.mu _ _ h)
  | nilmap => exact .nilmap
  | map h => exact .map (e.mu _ _ h)
  | func fn h1 h2 _ _ ih1 ih2 => exact .func fn h1 h2 ih1 ih2
  | nilfunc => exact .nilfunc
  | iface t _ ih => exact .iface t ih
  | niliface => exact .niliface
  | agg h1 _ ih => exact .agg h1 ih
  | tuple h1 _ ih => exact .tuple h1 ih
  | iter h => exact .iter (e.mu _ _ h)

/-! ## Keys -/
def baseKey : AVal → Bool
  | .bool _ | .int .. | .str _ => true
  | _ => false

def concKey : AVal → Value
  | .bool b => .bool b
  | .int k n => .int k n
  | .str s => .string s
  | _ => .nilIface

def keyShape : AVal → Bool
  | .agg cs => cs.all baseKey
  | a => baseKey a

def concOf : AVal → Value
  | .agg cs => .agg (cs.map concKey).toArray
  | a => concKey a

/-! ## The heap -/
/-- entries: no key twice, no stamp twice, stamps below the clock -/
structure MapOk (ents : Array MapEntry) (clock : Nat) : Prop where
  key : ∀ (i j : Nat) e e', ents[i]? = some e → ents[j]? = some e' → e.key = e'.key → i = j
  old : ∀ (i : Nat) e, ents[i]? = some e → e.born < clock
  born : ∀ (i j : Nat) e e', ents[i]? = some e → ents[j]? = some e' → e.born = e'.born → i = j

theorem MapOk.empty (clock : Nat) : MapOk #[] clock := ⟨by simp, by simp, by simp⟩

def ORel (g : Gh) (w : World) (id b : Nat) : AObj → Prop
  | .dead => True
  | .cells cs => g.lim b = 0 ∧ (∀ a ∈ cs, a.oneCell = true) ∧ ∃ arr, rowIs w b arr ∧ cs.length ≤ arr.size ∧ ∀ (i : Nat) a c, cs[i]? = some a → arr[i]? = some c → VRel g w a c
  | .map kt es => g.lim b = 0 ∧ ∃ ents clock, w.heap[b]? = some (.map ents clock) ∧ es.length = ents.size ∧ (∀ e ∈ ents, g.kp kt e.key) ∧
      MapOk ents clock ∧
      ∀ (i : Nat) k v e, es[i]? = some (k, v) → ents[i]? = some e → keyShape k = true ∧ e.key = concOf k ∧ VRel g w v e.val
  | .tok => g.lim b = g.ka id ∧ ∃ arr, rowIs w b arr ∧ g.ka id ≤ arr.size
  | .siter s pos => g.lim b = 0 ∧ w.heap[b]? = some (.stringIter s pos)

def Alive (H : Hp) (id : Nat) : Prop := H.get id ≠ .dead

structure HRel (g : Gh) (H : Hp) (w : World) : Prop where
  obj : ∀ id b, g.mu id = some b → ORel g w id b (H.get id)
  inj : ∀ i j b, g.mu i = some b → g.mu j = some b → Alive H i → Alive H j → i = j
  lt : ∀ id b, g.mu id = some b → id < H.next ∧ id < maxTmp ∧ b < w.heap.size
  fresh : ∀ id, H.next ≤ id → H.get id = .dead
  limlt : ∀ b, g.lim b ≠ 0 → b < w.heap.size

/-- block b is one that the heap's objects hold -/
def Held (g : Gh) (H : Hp) (b : Nat) : Prop := ∃ id, g.mu id = some b ∧ Alive H id

/-- the world keeps its shape: nothing is told, no row is laid otherwise -/
structure KeepW (w w' : World) : Prop where
  os : w'.os = w.os
  out : w'.output = w.output
  shp : ∀ (b : Nat) c t fr, w.heap[b]? = some (.cells c t fr) → ∃ c', w'.heap[b]? = some (.cells c' t fr) ∧ c'.size = c.size

theorem KeepW.refl (w : World) : KeepW w w := ⟨rfl, rfl, fun _ c _ _ h => ⟨c, h, rfl⟩⟩
theorem KeepW.trans {w w1 w2 : World} (h : KeepW w w1) (k : KeepW w1 w2) : KeepW w w2 :=
  ⟨k.os.trans h.os, k.out.trans h.out, fun b c t fr e => by
    obtain ⟨c1, h1, h2⟩ := h.shp b c t fr e
    obtain ⟨c2, h3, h4⟩ := k.shp b c1 t fr h1
    exact ⟨c2, h3, h4.trans h2⟩⟩
theorem KeepW.heap_eq {w w' : World} (e : w'.heap = w.heap) (ho : w'.os = w.os) (hu : w'.output = w.output) : KeepW w w' :=
  ⟨ho, hu, fun b c t fr h => ⟨c, by rw [e]; exact h, rfl⟩⟩
theorem KeepW.others {w w' : World} {b : Nat} (ho : w'.os = w.os) (hu : w'.output = w.output) (hoth : ∀ c, c ≠ b → c < w.heap.size → w'.heap[c]? = w.heap[c]?)
    (hb : ∀ c t fr, w.heap[b]? = some (.cells c t fr) → ∃ c', w'.heap[b]? = some (.cells c' t fr) ∧ c'.size = c.size) : KeepW w w' :=
  ⟨ho, hu, fun k c t fr h => by
    by_cases e : k = b
    · subst e; exact hb c t fr h
    · exact ⟨c, by rw [hoth k e (Array.getElem?_eq_some_iff.1 h).1]; exact h, rfl⟩⟩
theorem KeepW.setRow {w : World} {b : Nat} {arr arr' : Array Value} (h : rowIs w b arr) (hs : arr'.size = arr.size) : KeepW w (w.setRow b arr') := by
  obtain ⟨e, h⟩ := h
  refine .others (b := b) rfl rfl (fun c hc _ => setRow_other w b c arr' hc) fun c t fr h' => ?_
  rw [h] at h'
  injection h' with h'
  injection h' with h1 h2 h3
  subst h1 h2 h3
  exact ⟨arr', setRow_heap w b arr arr' e _ h, hs⟩
theorem KeepW.setObj {w : World} {b : Nat} {O : Obj} (h : ∀ c t fr, w.heap[b]? ≠ some (.cells c t fr)) : KeepW w { w with heap := w.heap.setIfInBounds b O } :=
  .others (b := b) rfl rfl (fun c hc _ => by
    show (w.heap.setIfInBounds b O)[c]? = _
    rw [Array.getElem?_setIfInBounds, if_neg (Ne.symm hc)]) fun c t fr h' => absurd h' (h c t fr)

/-- what a piece of a run does to the heap; what lies behind N may be changed -/
structure Step (N : Nat) (g : Gh) (H : Hp) (w : World) (g' : Gh) (H' : Hp) (w' : World) : Prop where
  ext : Ext g w g' w'
  rel : HRel g' H' w'
  next : H.next ≤ H'.next
  size : w.heap.size ≤ w'.heap.size
  /-- what is not held stays as it is -/
  keep : ∀ b, b < N → b < w.heap.size → ¬ Held g H b → w'.heap[b]? = w.heap[b]? ∧ g'.lim b = g.lim b
  /-- nothing old is taken -/
  img : ∀ b, b < w.heap.size → Held g' H' b → Held g H b
  /-- old numbers stand for what they stood for -/
  old : ∀ id, id < H.next → g'.mu id = g.mu id
  /-- what has no place yet is as it was -/
  pend : ∀ id, id < H.next → g.mu id = none → H'.get id = H.get id
  kw : KeepW w w'

theorem Step.refl {N : Nat} {g : Gh} {H : Hp} {w : World} (h : HRel g H w) : Step N g H w g H w :=
  ⟨Ext.refl _ _, h, Nat.le_refl _, Nat.le_refl _, fun _ _ _ _ => ⟨rfl, rfl⟩, fun _ _ h => h, fun _ _ => rfl, fun _ _ _ => rfl, .refl w⟩

theorem Step.weaken {N M : Nat} {g g1 : Gh} {H H1 : Hp} {w w1 : World} (h : Step M g H w g1 H1 w1) (hn : N ≤ M) : Step N g H w g1 H1 w1 :=
  { h with keep := fun b hb => h.keep b (Nat.lt_of_lt_of_le hb hn) }

theorem Step.trans {N : Nat} {g g1 g2 : Gh} {H H1 H2 : Hp} {w w1 w2 : World} (h : Step N g H w g1 H1 w1) (k : Step N g1 H1 w1 g2 H2 w2) : Step N g H w g2 H2 w2 where
  ext := h.ext.trans k.ext
  rel := k.rel
  next := Nat.le_trans h.next k.next
  size := Nat.le_trans h.size k.size
  keep b hN hb hn := by
    have hn1 : ¬ Held g1 H1 b := fun hh => hn (h.img b hb hh)
    have a := h.keep b hN hb hn
    have c := k.keep b hN (Nat.lt_of_lt_of_le hb h.size) hn1
    exact ⟨c.1.trans a.1, c.2.trans a.2⟩
  img b hb hh := h.img b hb (k.img b (Nat.lt_of_lt_of_le hb h.size) hh)
  old id hi := (k.old id (Nat.lt_of_lt_of_le hi h.next)).trans (h.old id hi)
  pend id hi hn := (k.pend id (Nat.lt_of_lt_of_le hi h.next) ((h.old id hi).trans hn)).trans (h.pend id hi hn)
  kw := h.kw.trans k.kw

/-! ## The frame's own variables -/
structure LvRel (N : Nat) (g : Gh) (p : Nat → Option Nat) (H : Hp) (w : World) (lv : Lv) : Prop where
  one : ∀ t b, p t = some b → ∃ cs arr, lv.get t = some cs ∧ g.lim b = 0 ∧ (∀ a ∈ cs, a.oneCell = true) ∧ rowIs w b arr ∧ cs.length ≤ arr.size ∧
    ∀ (i : Nat) a c, cs[i]? = some a → arr[i]? = some c → VRel g w a c
  inj : ∀ t u b, p t = some b → p u = some b → t = u
  priv : ∀ t b, p t = some b → ¬ Held g H b
  lt : ∀ t b, p t = some b → N ≤ b ∧ b < w.heap.size
  nx : ∀ t b, p t = some b → t < lv.next ∧ t < maxTmp

def TRel (g : Gh) (w : World) (p : Nat → Option Nat) : AVal → Value → Prop
  | .lptr t off, c => ∃ b, p t = some b ∧ c = .pointer (some ⟨b, off, none⟩)
  | a, c => VRel g w a c

theorem TRel.of {g : Gh} {w : World} {p : Nat → Option Nat} {a : AVal} {c : Value} (h : VRel g w a c) : TRel g w p a c := by
  cases h <;> first | exact .undef _ | (constructor <;> assumption)

/-! ## Cells -/
theorem cell_of_heap {w w' : World} {b : Nat} (h : w'.heap[b]? = w.heap[b]?) (k : Nat) : w'.cell? ⟨b, k, none⟩ = w.cell? ⟨b, k, none⟩ := by
  simp [World.cell?, h]

theorem sizeAt_of_heap {w w' : World} {b : Nat} (h : w'.heap[b]? = w.heap[b]?) : sizeAt w' b = sizeAt w b := by simp [sizeAt, h]

theorem rowIs.cell {w : World} {b : Nat} {arr : Array Value} (h : rowIs w b arr) (k : Nat) : w.cell? ⟨b, k, none⟩ = arr[k]? := by
  obtain ⟨e, h⟩ := h; simp [World.cell?, h]

theorem rowIs.size {w : World} {b : Nat} {arr : Array Value} (h : rowIs w b arr) : sizeAt w b = arr.size := by
  obtain ⟨e, h⟩ := h; simp [sizeAt, h]

theorem rowIs.lt {w : World} {b : Nat} {arr : Array Value} (h : rowIs w b arr) : b < w.heap.size := by
  obtain ⟨e, h⟩ := h
  exact (Array.getElem?_eq_some_iff.1 h).1

theorem rowIs.of_heap {w w' : World} {b : Nat} {arr : Array Value} (h : rowIs w b arr) (e : w'.heap[b]? = w.heap[b]?) : rowIs w' b arr := by
  obtain ⟨t, h⟩ := h; exact ⟨t, e.trans h⟩

theorem rowIs.set {w : World} {b : Nat} {arr : Array Value} (h : rowIs w b arr) (arr' : Array Value) : rowIs (w.setRow b arr') b arr' := by
  obtain ⟨t, h⟩ := h; exact ⟨t, setRow_heap w b arr arr' t _ h⟩

end Go.Rs
end
/- The steps that a run takes on the heap. -/
section
namespace Go.Rs

theorem Hp.get_set (H : Hp) (i j : Nat) (o : AObj) (h : i < maxTmp) : (H.set i o).get j = if i = j then o else H.get j := by
  unfold Hp.get Hp.set
  rw [Tr.get_set _ _ _ _ h]
  split <;> rfl

theorem Hp.get_alloc (H : Hp) (j : Nat) (o : AObj) (h : H.next < maxTmp) : (H.alloc o).2.get j = if H.next = j then o else H.get j := by
  unfold Hp.get Hp.alloc
  simp only
  rw [Tr.get_set _ _ _ _ h]
  split <;> rfl

@[simp] theorem Hp.next_set (H : Hp) (i : Nat) (o : AObj) : (H.set i o).next = H.next := rfl
@[simp] theorem Hp.next_alloc (H : Hp) (o : AObj) : (H.alloc o).2.next = H.next + 1 := rfl
@[simp] theorem Hp.fst_alloc (H : Hp) (o : AObj) : (H.alloc o).1 = H.next := rfl

theorem heap_alloc_old (w : World) (O : Obj) {b : Nat} (h : b < w.heap.size) : (w.alloc O).heap[b]? = w.heap[b]? := by
  simp only [World.alloc, Array.getElem?_push]
  rw [if_neg (by omega)]

theorem heap_alloc_new' (w : World) (O : Obj) : (w.alloc O).heap[w.heap.size]? = some O := by
  unfold World.alloc
  simp

theorem heap_alloc_none (w : World) (O : Obj) {b : Nat} (h : w.heap.size < b) : (w.alloc O).heap[b]? = none := by
  simp only [World.alloc, Array.getElem?_push]
  rw [if_neg (by omega)]
  exact Array.getElem?_eq_none (by omega)

theorem size_alloc' (w : World) (O : Obj) : (w.alloc O).heap.size = w.heap.size + 1 := by
  unfold World.alloc
  simp

theorem ORel.mono {g g' : Gh} {w w' : World} (e : Ext g w g' w') {id b : Nat} {o : AObj} (hh : w'.heap[b]? = w.heap[b]?) (hl : g'.lim b = g.lim b)
    (hk : g'.ka id = g.ka id) (h : ORel g w id b o) : ORel g' w' id b o := by
  cases o with
  | dead => trivial
  | cells cs =>
    obtain ⟨h0, h1, arr, hr, hs, hv⟩ := h
    exact ⟨hl.trans h0, h1, arr, hr.of_heap hh, hs, fun i a c ha hc => (hv i a c ha hc).mono e⟩
  | map kt es =>
    obtain ⟨h0, ents, clock, hr, hs, hkp, hd, hv⟩ := h
    exact ⟨hl.trans h0, ents, clock, hh.trans hr, hs, by rw [e.kp]; exact hkp, hd, fun i k v en h1 h2 => ⟨(hv i k v en h1 h2).1, (hv i k v en h1 h2).2.1, (hv i k v en h1 h2).2.2.mono e⟩⟩
  | tok =>
    obtain ⟨h0, arr, hr, hs⟩ := h
    exact ⟨by rw [hl, hk, h0], arr, hr.of_heap hh, by rw [hk]; exact hs⟩
  | siter s pos => exact ⟨hl.trans h.1, hh.trans h.2⟩

/-! ## A new block -/
/-- the ghost with object id in block b, whose first n cells stay, with the token's end e -/
def Gh.upd (g : Gh) (id b n e : Nat) : Gh where
  kp := g.kp
  mu := fun i => if i = id then some b else g.mu i
  lim := fun c => if c = b then n else g.lim c
  ka := fun i => if i = id then e else g.ka i

/-- the ghost with n cells of block b that stay -/
def Gh.limit (g : Gh) (b n : Nat) : Gh := { g with lim := fun c => if c = b then n else g.lim c }

theorem Ext.push {g : Gh} {H : Hp} {w : World} (h : HRel g H w) (O : Obj) (n e : Nat) : Ext g w (g.upd H.next w.heap.size n e) (w.alloc O) where
  kp := rfl
  mu i b hb := by
    have := (h.lt i b hb).1
    show (if i = H.next then _ else _) = _
    rw [if_neg (by omega)]; exact hb
  ka i b hb := by
    have := (h.lt i b hb).1
    show (if i = H.next then _ else _) = _
    rw [if_neg (by omega)]
  lim b := by
    show g.lim b ≤ if b = w.heap.size then n else g.lim b
    split
    · rename_i hb
      have : g.lim b = 0 := by
        rcases Nat.eq_zero_or_pos (g.lim b) with h0 | h0
        · exact h0
        · have := h.limlt b (by omega); omega
      omega
    · exact Nat.le_refl _
  imm b k v hk hc := by
    have hb := h.limlt b (by omega)
    rw [cell_of_heap (heap_alloc_old w O hb)]; exact hc
  size b := by
    rcases Nat.lt_or_ge b w.heap.size with hb | hb
    · rw [sizeAt_of_heap (heap_alloc_old w O hb)]; exact Nat.le_refl _
    · have : sizeAt w b = 0 := by simp [sizeAt, Array.getElem?_eq_none hb]
      omega

theorem Ext.limit {g : Gh} {H : Hp} {w : World} (h : HRel g H w) (O : Obj) (n : Nat) : Ext g w (g.limit w.heap.size n) (w.alloc O) :=
  let e := Ext.push h O n 0
  { kp := rfl, mu := fun _ _ h => h, ka := fun _ _ _ => rfl, lim := e.lim, imm := e.imm, size := e.size }

theorem KeepW.alloc (w : World) (O : Obj) : KeepW w (w.alloc O) :=
  ⟨rfl, rfl, fun b c t fr h => ⟨c, by rw [heap_alloc_old w O (Array.getElem?_eq_some_iff.1 h).1]; exact h, rfl⟩⟩

theorem Step.newObj {N : Nat} {g : Gh} {H : Hp} {w : World} (h : HRel g H w) (o : AObj) (O : Obj) (n e : Nat) (hn : H.next < maxTmp)
    (hO : ORel (g.upd H.next w.heap.size n e) (w.alloc O) H.next w.heap.size o) :
    Step N g H w (g.upd H.next w.heap.size n e) (H.alloc o).2 (w.alloc O) := by
  have ext := Ext.push h O n e
  have mu_eq : ∀ i, (g.upd H.next w.heap.size n e).mu i = if i = H.next then some w.heap.size else g.mu i := fun _ => rfl
  have old_lt : ∀ {i b}, g.mu i = some b → i ≠ H.next := fun hi e => by have := (h.lt _ _ hi).1; omega
  refine ⟨ext, ⟨?_, ?_, ?_, ?_, ?_⟩, by simp, by rw [size_alloc']; omega, ?_, ?_, ?_, ?_, .alloc w O⟩
  · intro id b hb
    rw [mu_eq] at hb
    rw [Hp.get_alloc H id o hn]
    split at hb
    · rename_i hid
      injection hb with hb
      subst hid hb
      rw [if_pos rfl]; exact hO
    · rename_i hid
      rw [if_neg (Ne.symm hid)]
      have hlt := (h.lt id b hb).2.2
      refine (h.obj id b hb).mono ext (heap_alloc_old w O hlt) ?_ ?_
      · show (if b = w.heap.size then n else g.lim b) = _
        rw [if_neg (by omega)]
      · show (if id = H.next then e else g.ka id) = _
        rw [if_neg hid]
  · intro i j b hi hj ai aj
    rw [mu_eq] at hi hj
    split at hi <;> split at hj
    · rename_i a c; rw [a, c]
    · injection hi with hi
      have := (h.lt j b hj).2.2; omega
    · injection hj with hj
      have := (h.lt i b hi).2.2; omega
    · rename_i a c
      refine h.inj i j b hi hj ?_ ?_
      · intro e; apply ai; rw [Hp.get_alloc H i o hn, if_neg (Ne.symm a)]; exact e
      · intro e; apply aj; rw [Hp.get_alloc H j o hn, if_neg (Ne.symm c)]; exact e
  · intro id b hb
    rw [mu_eq] at hb
    rw [size_alloc', Hp.next_alloc]
    split at hb
    · rename_i hid; injection hb with hb; exact ⟨by omega, by omega, by omega⟩
    · have := h.lt id b hb; exact ⟨by omega, this.2.1, by omega⟩
  · intro id hid
    rw [Hp.next_alloc] at hid
    rw [Hp.get_alloc H id o hn, if_neg (by omega)]
    exact h.fresh id (by omega)
  · intro b hb
    rw [size_alloc']
    by_cases e : b = w.heap.size
    · omega
    · have : g.lim b ≠ 0 := by
        have h' : (if b = w.heap.size then n else g.lim b) ≠ 0 := hb
        rwa [if_neg e] at h'
      have := h.limlt b this; omega
  · intro b _ hb _
    refine ⟨heap_alloc_old w O hb, ?_⟩
    show (if b = w.heap.size then n else g.lim b) = _
    rw [if_neg (by omega)]
  · rintro b hb ⟨id, hid, al⟩
    rw [mu_eq] at hid
    split at hid
    · injection hid with hid; omega
    · rename_i hne
      refine ⟨id, hid, ?_⟩
      intro e; apply al; rw [Hp.get_alloc H id o hn, if_neg (Ne.symm hne)]; exact e
  · intro id hid
    rw [mu_eq, if_neg (by omega)]
  · intro id hid _
    rw [Hp.get_alloc H id o hn, if_neg (by omega)]

/-- a new row of which n cells stay as they are -/
theorem Step.newRow {N : Nat} {g : Gh} {H : Hp} {w : World} (h : HRel g H w) (O : Obj) (n : Nat) :
    Step N g H w (g.limit w.heap.size n) H (w.alloc O) := by
  have ext := Ext.limit h O n
  have lim_eq : ∀ b, (g.limit w.heap.size n).lim b = if b = w.heap.size then n else g.lim b := fun _ => rfl
  refine ⟨ext, ⟨?_, ?_, ?_, h.fresh, ?_⟩, Nat.le_refl _, by rw [size_alloc']; omega, ?_, ?_, fun _ _ => rfl, fun _ _ _ => rfl, .alloc w O⟩
  · intro id b hb
    have hlt := (h.lt id b hb).2.2
    refine (h.obj id b hb).mono ext (heap_alloc_old w O hlt) ?_ rfl
    rw [lim_eq, if_neg (by omega)]
  · exact h.inj
  · intro id b hb
    have := h.lt id b hb
    exact ⟨this.1, this.2.1, by rw [size_alloc']; omega⟩
  · intro b hb
    rw [size_alloc']
    rw [lim_eq] at hb
    split at hb
    · omega
    · have := h.limlt b hb; omega
  · intro b _ hb _
    exact ⟨heap_alloc_old w O hb, by rw [lim_eq, if_neg (by omega)]⟩
  · exact fun b _ hh => hh

/-! ## A draw -/
theorem HRel.heap_eq {g : Gh} {H : Hp} {w w' : World} (h : HRel g H w) (e : w'.heap = w.heap) : HRel g H w' := by
  have ext : Ext g w g w' := ⟨rfl, fun _ _ h => h, fun _ _ _ => rfl, fun _ => Nat.le_refl _, fun b k v _ hc => by rw [cell_of_heap (w := w) (w' := w') (by rw [e])]; exact hc, fun b => by rw [sizeAt_of_heap (w := w) (w' := w') (by rw [e])]; exact Nat.le_refl _⟩
  exact ⟨fun id b hb => (h.obj id b hb).mono ext (by rw [e]) rfl rfl, h.inj, fun id b hb => by rw [e]; exact h.lt id b hb, h.fresh, fun b hb => by rw [e]; exact h.limlt b hb⟩

theorem Ext.heap_eq {g : Gh} {w w' : World} (e : w'.heap = w.heap) : Ext g w g w' :=
  ⟨rfl, fun _ _ h => h, fun _ _ _ => rfl, fun _ => Nat.le_refl _, fun b k v _ hc => by rw [cell_of_heap (w := w) (w' := w') (by rw [e])]; exact hc, fun b => by rw [sizeAt_of_heap (w := w) (w' := w') (by rw [e])]; exact Nat.le_refl _⟩

theorem Step.heap_eq {N : Nat} {g : Gh} {H : Hp} {w w' : World} (h : HRel g H w) (e : w'.heap = w.heap) (ho : w'.os = w.os) (hu : w'.output = w.output) : Step N g H w g H w' :=
  ⟨Ext.heap_eq e, h.heap_eq e, Nat.le_refl _, by rw [e]; exact Nat.le_refl _, fun _ _ _ _ => ⟨by rw [e], rfl⟩, fun _ _ h => h, fun _ _ => rfl, fun _ _ _ => rfl, .heap_eq e ho hu⟩

/-! ## A write into an object -/
/-- the heap with block b laid anew -/
theorem Step.write {N : Nat} {g : Gh} {H : Hp} {w w' : World} (h : HRel g H w) {id b : Nat} {o : AObj} (hb : g.mu id = some b) (al : Alive H id) (al' : o ≠ .dead)
    (hl : g.lim b = 0) (hsz : w'.heap.size = w.heap.size) (hoth : ∀ c, c ≠ b → w'.heap[c]? = w.heap[c]?) (hs : sizeAt w b ≤ sizeAt w' b) (hkw : KeepW w w')
    (hO : Ext g w g w' → ORel g w' id b o) : Step N g H w g (H.set id o) w' := by
  have hid := h.lt id b hb
  have ext : Ext g w g w' := by
    refine ⟨rfl, fun _ _ h => h, fun _ _ _ => rfl, fun _ => Nat.le_refl _, fun c k v hk hc => ?_, fun c => ?_⟩
    · have hne : c ≠ b := by rintro rfl; omega
      rw [cell_of_heap (hoth c hne)]; exact hc
    · by_cases e : c = b
      · rw [e]; exact hs
      · rw [sizeAt_of_heap (hoth c e)]; exact Nat.le_refl _
  have alive : ∀ j, Alive (H.set id o) j ↔ Alive H j := by
    intro j
    unfold Alive
    rw [Hp.get_set H id j o hid.2.1]
    split
    · rename_i e; subst e; exact ⟨fun _ => al, fun _ => al'⟩
    · rfl
  have held : ∀ c, Held g (H.set id o) c ↔ Held g H c := fun c => by
    unfold Held; simp only [alive]
  refine ⟨ext, ⟨?_, ?_, ?_, ?_, ?_⟩, Nat.le_refl _, by omega, ?_, fun c _ hc => (held c).1 hc, fun _ _ => rfl, ?_, hkw⟩
  · intro j c hc
    rw [Hp.get_set H id j o hid.2.1]
    split
    · rename_i e
      subst e
      obtain rfl : b = c := by rw [hb] at hc; exact Option.some.inj hc
      exact hO ext
    · rename_i e
      by_cases hcb : c = b
      · subst hcb
        by_cases hj : Alive H j
        · exact absurd (h.inj id j c hb hc al hj) e
        · have : H.get j = .dead := Classical.not_not.1 hj
          rw [this]; trivial
      · exact (h.obj j c hc).mono ext (hoth c hcb) rfl rfl
  · intro i j c hi hj ai aj
    exact h.inj i j c hi hj ((alive i).1 ai) ((alive j).1 aj)
  · intro j c hc
    have := h.lt j c hc
    exact ⟨this.1, this.2.1, by omega⟩
  · intro j hj
    rw [Hp.get_set H id j o hid.2.1, if_neg (by simp at hj; omega)]
    exact h.fresh j hj
  · intro c hc
    rw [hsz]; exact h.limlt c hc
  · intro c _ _ hn
    have hne : c ≠ b := by rintro rfl; exact hn ⟨id, hb, al⟩
    exact ⟨hoth c hne, rfl⟩
  · intro j hj hn
    rw [Hp.get_set H id j o hid.2.1, if_neg (by rintro rfl; rw [hb] at hn; cases hn)]

/-- an object is given up -/
theorem Step.kill {N : Nat} {g : Gh} {H : Hp} {w : World} (h : HRel g H w) {id b : Nat} (hb : g.mu id = some b) : Step N g H w g (H.set id .dead) w := by
  have hid := h.lt id b hb
  have get : ∀ j, (H.set id .dead).get j = if id = j then .dead else H.get j := fun j => Hp.get_set H id j _ hid.2.1
  have alive : ∀ j, Alive (H.set id .dead) j → Alive H j := by
    intro j hj
    unfold Alive at *
    rw [get] at hj
    split at hj
    · exact absurd rfl hj
    · exact hj
  refine ⟨Ext.refl _ _, ⟨?_, ?_, ?_, ?_, h.limlt⟩, Nat.le_refl _, Nat.le_refl _, fun _ _ _ _ => ⟨rfl, rfl⟩, ?_, fun _ _ => rfl, ?_, .refl w⟩
  · intro j c hc
    rw [get]
    split
    · trivial
    · exact h.obj j c hc
  · intro i j c hi hj ai aj; exact h.inj i j c hi hj (alive i ai) (alive j aj)
  · exact fun j c hc => h.lt j c hc
  · intro j hj
    rw [get]; split
    · rfl
    · exact h.fresh j hj
  · rintro c _ ⟨j, hj, al⟩; exact ⟨j, hj, alive j al⟩
  · intro j _ hn
    rw [get, if_neg (by rintro rfl; rw [hb] at hn; cases hn)]

/-- block b goes from one object to a new one -/
theorem Step.rehold {N : Nat} {g : Gh} {H : Hp} {w w' : World} (h : HRel g H w) {id b : Nat} (o : AObj) (n e : Nat) (hb : g.mu id = some b) (al : Alive H id) (hn : H.next < maxTmp)
    (hl : g.lim b ≤ n) (hsz : w'.heap.size = w.heap.size) (hoth : ∀ c, c ≠ b → w'.heap[c]? = w.heap[c]?) (hs : sizeAt w b ≤ sizeAt w' b) (hkw : KeepW w w')
    (himm : ∀ k v, k < g.lim b → w.cell? ⟨b, k, none⟩ = some v → w'.cell? ⟨b, k, none⟩ = some v)
    (hO : Ext g w (g.upd H.next b n e) w' → ORel (g.upd H.next b n e) w' H.next b o) :
    Step N g H w (g.upd H.next b n e) ((H.set id .dead).alloc o).2 w' := by
  have hid := h.lt id b hb
  have mu_eq : ∀ i, (g.upd H.next b n e).mu i = if i = H.next then some b else g.mu i := fun _ => rfl
  have lim_eq : ∀ c, (g.upd H.next b n e).lim c = if c = b then n else g.lim c := fun _ => rfl
  have get : ∀ j, ((H.set id .dead).alloc o).2.get j = if H.next = j then o else if id = j then .dead else H.get j := fun j => by
    rw [Hp.get_alloc _ j o (by simpa using hn), Hp.get_set H id j _ hid.2.1]; rfl
  have alive : ∀ j, j ≠ H.next → Alive ((H.set id .dead).alloc o).2 j → j ≠ id ∧ Alive H j := by
    intro j hj a
    unfold Alive at *
    rw [get, if_neg (Ne.symm hj)] at a
    split at a
    · exact absurd rfl a
    · rename_i hne; exact ⟨Ne.symm hne, a⟩
  have ext : Ext g w (g.upd H.next b n e) w' := by
    refine ⟨rfl, fun i c hc => ?_, fun i c hc => ?_, fun c => ?_, fun c k v hk hc => ?_, fun c => ?_⟩
    · have := (h.lt i c hc).1
      rw [mu_eq, if_neg (by omega)]; exact hc
    · have := (h.lt i c hc).1
      show (if i = H.next then e else g.ka i) = _
      rw [if_neg (by omega)]
    · rw [lim_eq]; split
      · rename_i hc; rw [hc]; exact hl
      · exact Nat.le_refl _
    · by_cases hcb : c = b
      · subst hcb; exact himm k v hk hc
      · rw [cell_of_heap (hoth c hcb)]; exact hc
    · by_cases hcb : c = b
      · rw [hcb]; exact hs
      · rw [sizeAt_of_heap (hoth c hcb)]; exact Nat.le_refl _
  refine ⟨ext, ⟨?_, ?_, ?_, ?_, ?_⟩, by simp, by omega, ?_, ?_, ?_, ?_, hkw⟩
  · intro j c hc
    rw [mu_eq] at hc
    rw [get]
    split at hc
    · rename_i hj
      subst hj
      injection hc with hc
      subst hc
      rw [if_pos rfl]; exact hO ext
    · rename_i hj
      rw [if_neg (Ne.symm hj)]
      split
      · trivial
      · rename_i hne
        by_cases hcb : c = b
        · subst hcb
          by_cases hal : Alive H j
          · exact absurd (h.inj id j c hb hc al hal) hne
          · have : H.get j = .dead := Classical.not_not.1 hal
            rw [this]; trivial
        · refine (h.obj j c hc).mono ext (hoth c hcb) (by rw [lim_eq, if_neg hcb]) ?_
          show (if j = H.next then e else g.ka j) = _
          rw [if_neg hj]
  · intro i j c hi hj ai aj
    rw [mu_eq] at hi hj
    split at hi <;> split at hj
    · rename_i a d; rw [a, d]
    · rename_i a d
      injection hi with hi
      subst hi
      have := alive j d aj
      exact absurd (h.inj j id b hj hb this.2 al) this.1
    · rename_i a d
      injection hj with hj
      subst hj
      have := alive i a ai
      exact absurd (h.inj i id b hi hb this.2 al) this.1
    · rename_i a d
      exact h.inj i j c hi hj (alive i a ai).2 (alive j d aj).2
  · intro j c hc
    rw [mu_eq] at hc
    simp only [Hp.next_alloc, Hp.next_set]
    split at hc
    · rename_i hj; injection hc with hc; have := h.lt id b hb; exact ⟨by omega, by omega, by omega⟩
    · have := h.lt j c hc; exact ⟨by omega, this.2.1, by omega⟩
  · intro j hj
    simp only [Hp.next_alloc, Hp.next_set] at hj
    rw [get, if_neg (by omega)]
    split
    · rfl
    · exact h.fresh j (by omega)
  · intro c hc
    rw [hsz]
    rw [lim_eq] at hc
    split at hc
    · rename_i hcb; rw [hcb]; exact hid.2.2
    · exact h.limlt c hc
  · intro c _ _ hnh
    have hcb : c ≠ b := by rintro rfl; exact hnh ⟨id, hb, al⟩
    exact ⟨hoth c hcb, by rw [lim_eq, if_neg hcb]⟩
  · rintro c _ ⟨j, hj, a⟩
    rw [mu_eq] at hj
    split at hj
    · injection hj with hj; subst hj; exact ⟨id, hb, al⟩
    · rename_i hne; exact ⟨j, hj, (alive j hne a).2⟩
  · intro j hj
    rw [mu_eq, if_neg (by omega)]
  · intro j hj hn'
    rw [get, if_neg (by omega), if_neg (by rintro rfl; rw [hb] at hn'; cases hn')]

/-- an object becomes a row that stays -/
theorem Step.freeze {N : Nat} {g : Gh} {H : Hp} {w : World} (h : HRel g H w) {id b : Nat} (n : Nat) (hb : g.mu id = some b) (al : Alive H id) (hl : g.lim b ≤ n) :
    Step N g H w (g.limit b n) (H.set id .dead) w := by
  have hid := h.lt id b hb
  have lim_eq : ∀ c, (g.limit b n).lim c = if c = b then n else g.lim c := fun _ => rfl
  have get : ∀ j, (H.set id .dead).get j = if id = j then .dead else H.get j := fun j => Hp.get_set H id j _ hid.2.1
  have alive : ∀ j, Alive (H.set id .dead) j → j ≠ id ∧ Alive H j := by
    intro j hj
    unfold Alive at *
    rw [get] at hj
    split at hj
    · exact absurd rfl hj
    · rename_i hne; exact ⟨Ne.symm hne, hj⟩
  have ext : Ext g w (g.limit b n) w := by
    refine ⟨rfl, fun _ _ h => h, fun _ _ _ => rfl, fun c => ?_, fun _ _ _ _ h => h, fun _ => Nat.le_refl _⟩
    rw [lim_eq]; split
    · rename_i hc; rw [hc]; exact hl
    · exact Nat.le_refl _
  refine ⟨ext, ⟨?_, ?_, fun j c hc => h.lt j c hc, ?_, ?_⟩, Nat.le_refl _, Nat.le_refl _, ?_, ?_, fun _ _ => rfl, ?_, .refl w⟩
  · intro j c hc
    rw [get]
    split
    · trivial
    · rename_i hne
      by_cases hcb : c = b
      · subst hcb
        by_cases hal : Alive H j
        · exact absurd (h.inj id j c hb hc al hal) hne
        · have : H.get j = .dead := Classical.not_not.1 hal
          rw [this]; trivial
      · exact (h.obj j c hc).mono ext rfl (by rw [lim_eq, if_neg hcb]) rfl
  · intro i j c hi hj ai aj; exact h.inj i j c hi hj (alive i ai).2 (alive j aj).2
  · intro j hj
    rw [get]; split
    · rfl
    · exact h.fresh j hj
  · intro c hc
    rw [lim_eq] at hc
    split at hc
    · rename_i hcb; rw [hcb]; exact hid.2.2
    · exact h.limlt c hc
  · intro c _ _ hnh
    have hcb : c ≠ b := by rintro rfl; exact hnh ⟨id, hb, al⟩
    exact ⟨rfl, by rw [lim_eq, if_neg hcb]⟩
  · rintro c _ ⟨j, hj, a⟩; exact ⟨j, hj, (alive j a).2⟩
  · intro j _ hn'
    rw [get, if_neg (by rintro rfl; rw [hb] at hn'; cases hn')]

/-! ## Writes to the frame's own blocks -/
/-- block b, not held and behind N, is laid anew -/
theorem Step.own {N : Nat} {g : Gh} {H : Hp} {w w' : World} (h : HRel g H w) {b : Nat} (hN : N ≤ b) (hb : b < w.heap.size) (hnh : ¬ Held g H b)
    (hl : g.lim b = 0) (hsz : w'.heap.size = w.heap.size) (hoth : ∀ c, c ≠ b → w'.heap[c]? = w.heap[c]?) (hs : sizeAt w b ≤ sizeAt w' b) (hkw : KeepW w w') :
    Step N g H w g H w' := by
  have ext : Ext g w g w' := by
    refine ⟨rfl, fun _ _ h => h, fun _ _ _ => rfl, fun _ => Nat.le_refl _, fun c k v hk hc => ?_, fun c => ?_⟩
    · have hne : c ≠ b := by rintro rfl; omega
      rw [cell_of_heap (hoth c hne)]; exact hc
    · by_cases e : c = b
      · rw [e]; exact hs
      · rw [sizeAt_of_heap (hoth c e)]; exact Nat.le_refl _
  refine ⟨ext, ⟨?_, h.inj, ?_, h.fresh, ?_⟩, Nat.le_refl _, by omega, ?_, fun _ _ h => h, fun _ _ => rfl, fun _ _ _ => rfl, hkw⟩
  · intro j c hc
    by_cases hcb : c = b
    · subst hcb
      have : H.get j = .dead := Classical.not_not.1 fun a => hnh ⟨j, hc, a⟩
      rw [this]; trivial
    · exact (h.obj j c hc).mono ext (hoth c hcb) rfl rfl
  · intro j c hc; have := h.lt j c hc; exact ⟨this.1, this.2.1, by omega⟩
  · intro c hc; rw [hsz]; exact h.limlt c hc
  · intro c hcN _ _
    exact ⟨hoth c (by omega), rfl⟩

/-- the frame's variables stand through what others do -/
theorem LvRel.step {N : Nat} {g g' : Gh} {p : Nat → Option Nat} {H H' : Hp} {w w' : World} {lv : Lv} (h : LvRel N g p H w lv) (s : Step w.heap.size g H w g' H' w') :
    LvRel N g' p H' w' lv where
  one t b hb := by
    obtain ⟨cs, arr, h1, h2, h3, h4, h5, h6⟩ := h.one t b hb
    have hlt := (h.lt t b hb).2
    have k := s.keep b hlt hlt (h.priv t b hb)
    exact ⟨cs, arr, h1, k.2.trans h2, h3, h4.of_heap k.1, h5, fun i a c ha hc => (h6 i a c ha hc).mono s.ext⟩
  inj := h.inj
  priv t b hb hh := h.priv t b hb (s.img b (h.lt t b hb).2 hh)
  lt t b hb := ⟨(h.lt t b hb).1, Nat.lt_of_lt_of_le (h.lt t b hb).2 s.size⟩
  nx := h.nx

theorem TRel.mono {g : Gh} {w : World} {g' : Gh} {w' : World} {p p' : Nat → Option Nat} (e : Ext g w g' w') (hp : ∀ t b, p t = some b → p' t = some b) {a : AVal} {c : Value} (h : TRel g w p a c) :
    TRel g' w' p' a c := by
  cases a <;> first
    | (obtain ⟨b, h1, h2⟩ := h; exact ⟨b, hp _ _ h1, h2⟩)
    | exact VRel.mono e h

end Go.Rs
end
/- Types, constants, loads and stores. -/
section
namespace Go.Rs

theorem toAs_length : ∀ l : List Value, (toAs l).length = l.length
  | [] => rfl
  | v :: l => by simp [toAs, toAs_length l]

mutual
theorem toA_rel (g : Gh) (w : World) : (v : Value) → VRel g w (toA v) v
  | .bool b => .bool b
  | .int k n => .int k n
  | .float .. => .undef _
  | .complex .. => .undef _
  | .string s => .str s
  | .pointer none => .nilptr
  | .pointer (some _) => .undef _
  | .slice none 0 0 => .nilslice
  | .slice none 0 (_ + 1) => .undef _
  | .slice none (_ + 1) _ => .undef _
  | .slice (some _) _ _ => .undef _
  | .map none => .nilmap
  | .map (some _) => .undef _
  | .chan _ => .undef _
  | .func .. => .undef _
  | .nilFunc => .nilfunc
  | .iface t v => .iface t (toA_rel g w v)
  | .nilIface => .niliface
  | .agg ⟨cs⟩ => .agg (toAs_length cs) (toAs_rel g w cs)
  | .tuple ⟨[]⟩ => .tuple (cs := []) (cs' := []) rfl (by simp)
  | .tuple ⟨_ :: _⟩ => .undef _
theorem toAs_rel (g : Gh) (w : World) : (l : List Value) → ∀ (i : Nat) a c, (toAs l)[i]? = some a → l[i]? = some c → VRel g w a c
  | [], _, _, _, h, _ => by simp [toAs] at h
  | v :: _, 0, a, c, h, k => by
    simp [toAs] at h k
    subst h k
    exact toA_rel g w v
  | _ :: l, i + 1, a, c, h, k => by
    simp [toAs] at h k
    exact toAs_rel g w l i a c h k
end

/-- values that lie in one cell -/
theorem VRel.one {g : Gh} {w : World} {a : AVal} {c : Value} (h : VRel g w a c) (ha : a.oneCell = true) : c.oneCell' = true := by
  cases h <;> first | rfl | simp [AVal.oneCell] at ha

theorem Value.cells_one {c : Value} (h : c.oneCell' = true) : c.cells = #[c] := by
  cases c <;> first | rfl | simp [Value.oneCell'] at h

theorem AVal.cells_one {a : AVal} (h : a.oneCell = true) : a.cells = [a] := by
  cases a <;> first | rfl | simp [AVal.oneCell] at h

/-- the cells of a value -/
structure CRel (g : Gh) (w : World) (as : List AVal) (cs : List Value) : Prop where
  len : as.length = cs.length
  rel : ∀ (i : Nat) a c, as[i]? = some a → cs[i]? = some c → VRel g w a c

theorem VRel.cells {g : Gh} {w : World} {a : AVal} {c : Value} (h : VRel g w a c) (ha : a ≠ .undef) (ht : ∀ l, a ≠ .tuple l) : CRel g w a.cells c.cells.toList := by
  by_cases hg : ∃ l, a = .agg l
  · obtain ⟨l, rfl⟩ := hg
    cases h with
    | agg h1 h2 => exact ⟨h1, h2⟩
  · have h1 : a.cells = [a] := by cases a <;> first | rfl | exact absurd ⟨_, rfl⟩ hg
    have h2 : c.cells = #[c] := by
      cases h <;> first | rfl | exact absurd rfl ha | exact absurd rfl (ht _) | exact absurd ⟨_, rfl⟩ hg
    rw [h1, h2]
    refine ⟨rfl, fun i x y hx hy => ?_⟩
    cases i with
    | zero => simp at hx hy; subst hx hy; exact h
    | succ i => simp at hx

theorem CRel.mono {g : Gh} {w : World} {g' : Gh} {w' : World} (e : Ext g w g' w') {as : List AVal} {cs : List Value} (h : CRel g w as cs) : CRel g' w' as cs :=
  ⟨h.len, fun i a c ha hc => (h.rel i a c ha hc).mono e⟩

/-! ## Types -/
section
variable {P : Program} {T : TypeId}

theorem tyOf_some {i : TypeInfo} (h : P.info? T = some i) : tyOf P T =
    (let z := match i.zero with | some v => (toA v).cells | none => []
    { ok := (P.underlying T).isSome, zok := i.zero.isSome && !z.isEmpty && z.all (·.oneCell) && z.length == i.size && fieldsOk P T, u := udOf P T, size := i.size, bytes := i.bytes, zero := z, zv := (match i.zero with | some v => toA v | none => .undef), meth := methOf P T }) := by
  unfold tyOf; rw [h] <;> rfl

theorem tyOf_ok (h : (tyOf P T).ok = true) : ∃ i d, P.info? T = some i ∧ P.underlying T = some d := by
  cases hi : P.info? T with
  | none => simp [tyOf, hi] at h
  | some i =>
    rw [tyOf_some hi] at h
    obtain ⟨d, hd⟩ := Option.isSome_iff_exists.1 h
    exact ⟨i, d, rfl, hd⟩

theorem tyOf_size {i : TypeInfo} (h : P.info? T = some i) : (tyOf P T).size = i.size := by rw [tyOf_some h]
theorem tyOf_bytes {i : TypeInfo} (h : P.info? T = some i) : (tyOf P T).bytes = i.bytes := by rw [tyOf_some h]

theorem tyOf_u : (tyOf P T).u ≠ .other → (tyOf P T).u = udOf P T := by
  intro h
  cases hi : P.info? T with
  | none => simp [tyOf, hi] at h
  | some i => rw [tyOf_some hi]

theorem ud_slice {e : TypeId} (h : (tyOf P T).u = .slice e) : P.underlying T = some (.slice e) := by
  have h' := tyOf_u (P := P) (T := T) (by rw [h]; simp)
  rw [h] at h'
  unfold udOf at h'
  split at h' <;> simp_all

theorem ud_arr {n : Nat} {e : TypeId} (h : (tyOf P T).u = .arr n e) : P.underlying T = some (.array n e) := by
  have h' := tyOf_u (P := P) (T := T) (by rw [h]; simp)
  rw [h] at h'
  unfold udOf at h'
  split at h' <;> simp_all

theorem ud_str (h : (tyOf P T).u = .str) : P.underlying T = some .string := by
  have h' := tyOf_u (P := P) (T := T) (by rw [h]; simp)
  rw [h] at h'
  unfold udOf at h'
  split at h' <;> simp_all

theorem ud_bool (h : (tyOf P T).u = .bool) : P.underlying T = some .bool := by
  have h' := tyOf_u (P := P) (T := T) (by rw [h]; simp)
  rw [h] at h'
  unfold udOf at h'
  split at h' <;> simp_all

theorem ud_int {k : IntKind} (h : (tyOf P T).u = .int k) : P.underlying T = some (.int k) := by
  have h' := tyOf_u (P := P) (T := T) (by rw [h]; simp)
  rw [h] at h'
  unfold udOf at h'
  split at h' <;> simp_all

theorem ud_map {k e : TypeId} (h : (tyOf P T).u = .map k e) : P.underlying T = some (.map k e) := by
  have h' := tyOf_u (P := P) (T := T) (by rw [h]; simp)
  rw [h] at h'
  unfold udOf at h'
  split at h' <;> simp_all

theorem ud_ptr {e : TypeId} (h : (tyOf P T).u = .ptr e) : P.underlying T = some (.pointer e) := by
  have h' := tyOf_u (P := P) (T := T) (by rw [h]; simp)
  rw [h] at h'
  unfold udOf at h'
  split at h' <;> simp_all

theorem ud_iface (h : (tyOf P T).u = .iface) : ∃ ms, P.underlying T = some (.interface ms) := by
  have h' := tyOf_u (P := P) (T := T) (by rw [h]; simp)
  rw [h] at h'
  unfold udOf at h'
  split at h' <;> simp_all

theorem ud_func (h : (tyOf P T).u = .func) : ∃ ps rs v, P.underlying T = some (.func ps rs v) := by
  have h' := tyOf_u (P := P) (T := T) (by rw [h]; simp)
  rw [h] at h'
  unfold udOf at h'
  split at h' <;> simp_all

theorem ud_struct {fs : List (Nat × TypeId)} (h : (tyOf P T).u = .struct fs) : ∃ F : Array Field, P.underlying T = some (.struct F) ∧ fs = F.toList.map fun f => (f.offset, f.type) := by
  have h' := tyOf_u (P := P) (T := T) (by rw [h]; simp)
  rw [h] at h'
  unfold udOf at h'
  split at h' <;> simp_all

/-- is it a struct or an array? -/
theorem run_isAgg' (h : (tyOf P T).ok = true) (w : World) : (Go.isAgg T).run P w = .ok (isAgg (tyOf P T).u) w := by
  obtain ⟨i, d, hi, hd⟩ := tyOf_ok h
  have hu : (tyOf P T).u = udOf P T := by rw [tyOf_some hi]
  unfold Go.isAgg
  simp only [Sem.run_bind, run_underlying hd, Result.andThen_ok]
  rw [hu]
  unfold udOf
  rw [hd]
  cases d <;> simp [isAgg]

theorem run_sizeOf' (h : (tyOf P T).ok = true) (w : World) : (sizeOf T).run P w = .ok (tyOf P T).size w := by
  obtain ⟨i, d, hi, hd⟩ := tyOf_ok h
  unfold sizeOf typeInfo
  simp [hi, tyOf_size hi]

theorem run_bytes' (h : (tyOf P T).ok = true) (w : World) : ∃ i, P.info? T = some i ∧ (typeInfo T).run P w = .ok i w ∧ i.bytes = (tyOf P T).bytes ∧ i.size = (tyOf P T).size := by
  obtain ⟨i, d, hi, hd⟩ := tyOf_ok h
  exact ⟨i, hi, by unfold typeInfo; simp [hi], (tyOf_bytes hi).symm, (tyOf_size hi).symm⟩

/-- the zero value -/
theorem run_zero (h : (tyOf P T).zok = true) (g : Gh) (w : World) : ∃ z, (zeroValue T).run P w = .ok z w ∧ CRel g w (tyOf P T).zero z.cells.toList ∧ VRel g w (toA z) z ∧
    (tyOf P T).zero = (toA z).cells ∧ (∀ a ∈ (tyOf P T).zero, a.oneCell = true) ∧ (tyOf P T).zero.length = (tyOf P T).size ∧ 0 < (tyOf P T).size := by
  cases hi : P.info? T with
  | none => simp [tyOf, hi] at h
  | some i =>
    rw [tyOf_some hi] at h ⊢
    simp only [Bool.and_eq_true] at h
    obtain ⟨⟨⟨⟨h1, h2⟩, h3⟩, h4⟩, _⟩ := h
    obtain ⟨z, hz⟩ := Option.isSome_iff_exists.1 h1
    simp only [hz] at h2 h3 h4 ⊢
    have hrun : (zeroValue T).run P w = .ok z w := by unfold zeroValue typeInfo; simp [hi, hz]
    have hrel := toA_rel g w z
    have hall : ∀ a ∈ (toA z).cells, a.oneCell = true := fun a ha => by
      have := List.all_eq_true.1 h3 a ha; simpa using this
    have hne : (toA z).cells ≠ [] := by simpa using h2
    refine ⟨z, hrun, hrel.cells ?_ ?_, hrel, rfl, hall, by simpa using h4, ?_⟩
    · intro e
      have := hall .undef (by rw [e]; simp [AVal.cells])
      simp [AVal.oneCell] at this
    · intro l e
      have := hall (.tuple l) (by rw [e]; simp [AVal.cells])
      simp [AVal.oneCell] at this
    · have e : (toA z).cells.length = i.size := by simpa using h4
      show 0 < i.size
      rw [← e]
      exact List.length_pos_iff.2 hne

theorem run_zv (h : (tyOf P T).zok = true) (g : Gh) (w : World) : ∃ z, (zeroValue T).run P w = .ok z w ∧ VRel g w (tyOf P T).zv z := by
  cases hi : P.info? T with
  | none => simp [tyOf, hi] at h
  | some i =>
    rw [tyOf_some hi] at h ⊢
    simp only [Bool.and_eq_true] at h
    obtain ⟨⟨⟨⟨h1, h2⟩, h3⟩, h4⟩, _⟩ := h
    obtain ⟨z, hz⟩ := Option.isSome_iff_exists.1 h1
    refine ⟨z, by unfold zeroValue typeInfo; simp [hi, hz], ?_⟩
    simp only [hz]
    exact toA_rel g w z

theorem zok_fields (h : (tyOf P T).zok = true) : fieldsOk P T = true := by
  cases hi : P.info? T with
  | none => simp [tyOf, hi] at h
  | some i =>
    rw [tyOf_some hi] at h
    simp only [Bool.and_eq_true] at h
    exact h.2

theorem okOf_ok (h : okOf P T = true) : (tyOf P T).ok = true := by
  unfold okOf at h
  simp only [Bool.and_eq_true] at h
  obtain ⟨i, hi⟩ := Option.isSome_iff_exists.1 h.1
  rw [tyOf_some hi]
  exact h.2

end
end Go.Rs
end
/- Loads and stores. -/
section
namespace Go.Rs

theorem addr_add (b o j : Nat) : (⟨b, o, none⟩ : Addr).add j = ⟨b, o + j, none⟩ := by
  unfold Addr.add; split <;> simp_all

theorem exists_list {α : Type} (p : Nat → α → Prop) : ∀ n, (∀ i, i < n → ∃ c, p i c) → ∃ l : List α, l.length = n ∧ ∀ i c, l[i]? = some c → p i c
  | 0, _ => ⟨[], rfl, by simp⟩
  | n + 1, h => by
    obtain ⟨l, hl, hp⟩ := exists_list p n (fun i hi => h i (by omega))
    obtain ⟨c, hc⟩ := h n (by omega)
    refine ⟨l ++ [c], by simp [hl], fun i d hd => ?_⟩
    by_cases hi : i < n
    · rw [List.getElem?_append_left (by omega)] at hd; exact hp i d hd
    · rw [List.getElem?_append_right (by omega)] at hd
      have : i = n := by
        rcases Nat.lt_or_ge (i - l.length) 1 with h1 | h1
        · omega
        · rw [List.getElem?_eq_none (by simpa using h1)] at hd; cases hd
      subst this
      simp [hl] at hd
      subst hd; exact hc

/-- cells of block b from o on -/
def AtCells (g : Gh) (w : World) (b o : Nat) (as : List AVal) : Prop := ∀ (i : Nat) a, as[i]? = some a → ∃ c, w.cell? ⟨b, o + i, none⟩ = some c ∧ VRel g w a c

section
variable {P : Program} {T : TypeId} {g : Gh} {w : World}

theorem run_loadVar' {b o off : Nat} {as : List AVal} {r : AVal} (hok : (tyOf P T).ok = true) (hat : AtCells g w b o as)
    (h : takeCells (isAgg (tyOf P T).u) (tyOf P T).size off as = some r) : ∃ c, (loadVar T ⟨b, o + off, none⟩).run P w = .ok c w ∧ VRel g w r c := by
  unfold loadVar
  simp only [Sem.run_bind, run_isAgg' hok, Result.andThen_ok]
  unfold takeCells at h
  cases hu : isAgg (tyOf P T).u with
  | true =>
    rw [hu] at h
    simp only [if_true] at h ⊢
    simp only [Sem.run_bind, run_sizeOf' hok, Result.andThen_ok]
    split at h
    · rename_i hlen
      injection h with h
      subst h
      generalize hl : List.take (tyOf P T).size (as.drop off) = l at hlen
      obtain ⟨cs, hcs, hp⟩ := exists_list (fun i c => w.cell? ⟨b, o + off + i, none⟩ = some c ∧ ∀ a, l[i]? = some a → VRel g w a c) (tyOf P T).size (fun i hi => by
        have hi' : i < l.length := by omega
        have e : as[off + i]? = some l[i] := by
          have e1 : l[i]? = some l[i] := List.getElem?_eq_getElem hi'
          have e2 : l[i]? = as[off + i]? := by rw [← hl, List.getElem?_take, if_pos hi, List.getElem?_drop]
          rw [← e2, e1]
        obtain ⟨c, h1, h2⟩ := hat _ _ e
        refine ⟨c, by rw [Nat.add_assoc]; exact h1, fun a ha => ?_⟩
        rw [List.getElem?_eq_getElem hi'] at ha
        injection ha with ha; subst ha; exact h2)
      have hrun := run_loadCells_list (P := P) w ⟨b, o + off, none⟩ cs (fun j v hv => by rw [addr_add]; exact (hp j v hv).1)
      rw [hcs] at hrun
      refine ⟨.agg cs.toArray, by simp [hrun], .agg (by omega) fun i a c ha hc => (hp i c hc).2 a ha⟩
    · cases h
  | false =>
    rw [hu] at h
    simp only [Bool.false_eq_true, if_false] at h ⊢
    obtain ⟨c, h1, h2⟩ := hat _ _ h
    exact ⟨c, by simp [h1], h2⟩

/-! ## Rows laid anew -/
theorem setCells_spec : ∀ (vs : List AVal) (off : Nat) (cs cs' : List AVal), setCells off vs cs = some cs' →
    cs'.length = cs.length ∧ (vs ≠ [] → off + vs.length ≤ cs.length) ∧ ∀ i, cs'[i]? = if off ≤ i ∧ i < off + vs.length then vs[i - off]? else cs[i]?
  | [], off, cs, cs', h => by
    simp only [setCells] at h
    injection h with h; subst h
    exact ⟨rfl, fun h => absurd rfl h, fun i => by rw [if_neg (by simp only [List.length_nil]; omega)]⟩
  | v :: vs, off, cs, cs', h => by
    simp only [setCells] at h
    split at h
    · rename_i hlt
      obtain ⟨h1, h2, h3⟩ := setCells_spec vs (off + 1) _ _ h
      rw [List.length_set] at h1 h2
      refine ⟨h1, fun _ => ?_, fun i => ?_⟩
      · by_cases hv : vs = []
        · subst hv; simp; omega
        · have := h2 hv; simp; omega
      · rw [h3]
        by_cases hi : off + 1 ≤ i ∧ i < off + 1 + vs.length
        · rw [if_pos hi, if_pos (by simp; omega)]
          obtain ⟨k, hk⟩ : ∃ k, i - off = k + 1 := ⟨i - off - 1, by omega⟩
          rw [hk, List.getElem?_cons_succ]
          congr 1; omega
        · rw [if_neg hi]
          by_cases hio : i = off
          · subst hio
            rw [if_pos (by simp only [List.length_cons]; omega)]
            simp [hlt]
          · rw [if_neg (by simp; omega), List.getElem?_set_ne (Ne.symm hio)]
    · cases h

theorem splice_getElem? (l vs : List Value) (off : Nat) (h : off + vs.length ≤ l.length) (i : Nat) :
    (l.take off ++ vs ++ l.drop (off + vs.length))[i]? = if off ≤ i ∧ i < off + vs.length then vs[i - off]? else l[i]? := by
  by_cases h1 : i < off
  · rw [if_neg (by omega), List.append_assoc, List.getElem?_append_left (by simp; omega), List.getElem?_take, if_pos h1]
  · by_cases h2 : i < off + vs.length
    · rw [if_pos (by omega), List.getElem?_append_left (by simp; omega), List.getElem?_append_right (by simp; omega)]
      congr 1; simp; omega
    · rw [if_neg (by omega), List.getElem?_append_right (by simp; omega), List.getElem?_drop]
      congr 1; simp; omega

theorem splice_length (l vs : List Value) (off : Nat) (h : off + vs.length ≤ l.length) : (l.take off ++ vs ++ l.drop (off + vs.length)).length = l.length := by
  simp; omega

/-- a piece of a row is laid anew -/
theorem row_splice {b off : Nat} {as vs as' : List AVal} {arr : Array Value} {vs' : List Value} (hr : rowIs w b arr) (hle : as.length ≤ arr.size)
    (hv : ∀ (i : Nat) a c, as[i]? = some a → arr[i]? = some c → VRel g w a c) (hc : CRel g w vs vs') (hset : setCells off vs as = some as')
    (hone : ∀ v ∈ vs', v.oneCell' = true) :
    ∃ arr' : Array Value, (storeCells ⟨b, off, none⟩ vs').run P w = .ok () (w.setRow b arr') ∧ arr'.size = arr.size ∧ as'.length ≤ arr'.size ∧
      ∀ (i : Nat) a c, as'[i]? = some a → arr'[i]? = some c → VRel g w a c := by
  obtain ⟨h1, h2, h3⟩ := setCells_spec vs off as as' hset
  by_cases hnil : vs = []
  · subst hnil
    have : vs' = [] := by have := hc.len; simp at this; exact List.length_eq_zero_iff.1 this.symm
    subst this
    obtain ⟨e, hr'⟩ := hr
    refine ⟨arr, ?_, rfl, by omega, fun i a c ha hc' => ?_⟩
    · rw [setRow_self w b arr e _ hr']; rfl
    · rw [h3, if_neg (by simp only [List.length_nil]; omega)] at ha
      exact hv i a c ha hc'
  · have hoff := h2 hnil
    have hlen := hc.len
    obtain ⟨e, hr'⟩ := hr
    have hrun := run_storeCells_at (P := P) b off e vs' 0 arr w hr' (by omega) hone
    have hle' : off + vs'.length ≤ arr.toList.length := by simp; omega
    refine ⟨_, hrun, ?_, ?_, ?_⟩
    · simp only [List.size_toArray, Nat.add_zero]
      rw [splice_length _ _ _ hle']; simp
    · simp only [List.size_toArray, Nat.add_zero]
      rw [splice_length _ _ _ hle', h1]; simpa using hle
    · intro i a c ha hc'
      simp only [List.getElem?_toArray, Nat.add_zero] at hc'
      rw [splice_getElem? _ _ _ hle', ← hlen] at hc'
      rw [h3] at ha
      split at ha
      · rename_i hi
        rw [if_pos hi] at hc'
        exact hc.rel _ a c ha hc'
      · rename_i hi
        rw [if_neg hi] at hc'
        exact hv i a c ha (by simpa using hc')

theorem run_storeVar' {b off : Nat} {v : Value} (hok : (tyOf P T).ok = true) (hsz : v.cells.size = (tyOf P T).size) {w' : World}
    (h : (storeCells ⟨b, off, none⟩ v.cells.toList).run P w = .ok () w') : (storeVar T ⟨b, off, none⟩ v).run P w = .ok () w' := by
  unfold storeVar
  simp [run_sizeOf' hok, hsz, h]

end
end Go.Rs
end
/- Operations that only compute. -/
section
namespace Go.Rs

/-- a deferred call of the function does nothing where nothing panics -/
def MuteOk (P : Program) (f : FuncId) : Prop := ∀ (args : Array Value) (w : World), (callFunc f args).run P w = .ok (.enter f args) w ∧
  CallsD P f args .returning w fun e u' w' => (∃ v, e = .returned v) ∧ u' = .returning ∧ w' = w

structure EnvOk (P : Program) (E : Env) : Prop where
  ty : ∀ T, E.ty T = tyOf P T
  fn : ∀ f fn, E.fn f = some fn → P.funcs[f]? = some fn
  mixed : P.follows .mixedOrders = true
  mute : ∀ f, E.mute f = true → MuteOk P f

/-- a deferred call that does nothing -/
def MuteD (P : Program) (d : Deferred) : Prop := ∃ f cap, d.target = .fn (.func f) cap ∧ MuteOk P f

/-- the machine does what the interpreter does at an operation -/
def OpOk (P : Program) (N : Nat) (g : Gh) (p : Nat → Option Nat) (H : Hp) (w : World) (lv : Lv) (o : Oper) (ev : Operand → AVal) (ρ : Operand → Value) (r : AVal) (lv' : Lv) (H' : Hp) : Prop :=
  ∃ nx c w' g' p', (execOp ρ o).run P w = .ok nx w' ∧ (nx = .value c ∨ nx = .skip ∧ c = undef) ∧ Step N g H w g' H' w' ∧ LvRel N g' p' H' w' lv' ∧ TRel g' w' p' r c ∧
    (∀ t, t < lv.next → p' t = p t) ∧ (∀ t, t < lv.next → p t = none → lv'.get t = lv.get t) ∧ lv.next ≤ lv'.next

section
variable {P : Program} {E : Env} {N : Nat} {g : Gh} {p : Nat → Option Nat} {H : Hp} {w : World} {lv : Lv} {o : Oper} {ev : Operand → AVal} {ρ : Operand → Value} {r : AVal}

theorem ok_pure {c : Value} (hH : HRel g H w) (hL : LvRel N g p H w lv) (hrun : (execOp ρ o).run P w = .ok (.value c) w) (hr : VRel g w r c) :
    OpOk P N g p H w lv o ev ρ r lv H :=
  ⟨_, c, w, g, p, hrun, .inl rfl, .refl hH, hL, .of hr, fun _ _ => rfl, fun _ _ _ => rfl, Nat.le_refl _⟩

theorem TRel.val {a : AVal} {c : Value} (h : TRel g w p a c) (ha : ∀ t off, a ≠ .lptr t off) : VRel g w a c := by
  cases a <;> first | exact absurd rfl (ha _ _) | exact h

theorem handed_lptr {a : AVal} (h : a.handed = true) : ∀ t off, a ≠ .lptr t off := by
  rintro t off rfl; simp [AVal.handed] at h

theorem TRel.handed {a : AVal} {c : Value} (h : TRel g w p a c) (ha : a.handed = true) : VRel g w a c := h.val (handed_lptr ha)

theorem trel_int {k : IntKind} {n : Int} {c : Value} (h : TRel g w p (.int k n) c) : c = .int k n := by
  have : VRel g w (.int k n) c := h
  cases this; rfl
theorem trel_bool {b : Bool} {c : Value} (h : TRel g w p (.bool b) c) : c = .bool b := by
  have : VRel g w (.bool b) c := h
  cases this; rfl
theorem trel_str {s : ByteArray} {c : Value} (h : TRel g w p (.str s) c) : c = .string s := by
  have : VRel g w (.str s) c := h
  cases this; rfl

/-! ### move, assign, pick -/
theorem op_move {x : Operand} (ho : o.op = .move x ∨ o.op = .assign x) (hH : HRel g H w) (hL : LvRel N g p H w lv) (hx : TRel g w p (ev x) (ρ x))
    (h : ((ev x).handed || sameTy (ev x)) = true) : OpOk P N g p H w lv o ev ρ (ev x) lv H := by
  refine ok_pure (c := ρ x) hH hL ?_ (hx.val ?_)
  · rcases ho with ho | ho <;> simp [execOp, ho]
  · intro t off e
    rw [e] at h
    simp [AVal.handed, sameTy] at h

theorem op_pick {c a b : Operand} (ho : o.op = .pick c a b) (hH : HRel g H w) (hL : LvRel N g p H w lv) {t : Bool} (hc : TRel g w p (.bool t) (ρ c))
    (ha : TRel g w p (ev a) (ρ a)) (hb : TRel g w p (ev b) (ρ b)) (h : (if t then ev a else ev b).handed = true) :
    OpOk P N g p H w lv o ev ρ (if t then ev a else ev b) lv H := by
  have ec := trel_bool hc
  refine ok_pure (c := if t then ρ a else ρ b) hH hL ?_ ?_
  · simp [execOp, ho, ec, asBool]
  · cases t
    · exact hb.handed h
    · exact ha.handed h

/-! ### extract, makeInterface, makeFunc, nilCheck -/
theorem op_extract {t : Operand} {i : Nat} {vs : List AVal} (ho : o.op = .extract t i) (hH : HRel g H w) (hL : LvRel N g p H w lv) (hx : TRel g w p (.tuple vs) (ρ t)) (h : vs[i]? = some r) :
    OpOk P N g p H w lv o ev ρ r lv H := by
  have hv : VRel g w (.tuple vs) (ρ t) := hx
  generalize hc : ρ t = c at hv
  cases hv with
  | @tuple cs cs' h1 h2 =>
    have hi : i < cs'.length := by
      have := (List.getElem?_eq_some_iff.1 h).1; omega
    have e : cs'[i]? = some cs'[i] := List.getElem?_eq_getElem hi
    refine ok_pure (c := cs'[i]) hH hL ?_ (h2 i _ _ h e)
    simp [execOp, ho, Instr.extract, hc, e]

theorem op_makeInterface {T : TypeId} {x : Operand} (ho : o.op = .makeInterface T x) (hH : HRel g H w) (hL : LvRel N g p H w lv) (hx : TRel g w p (ev x) (ρ x)) (h : (ev x).handed = true)
    (hok : (tyOf P T).ok = true) (hu : (tyOf P T).u ≠ .iface) : OpOk P N g p H w lv o ev ρ (.iface T (ev x)) lv H := by
  refine ok_pure (c := .iface T (ρ x)) hH hL ?_ (.iface T (hx.handed h))
  obtain ⟨i, d, hi, hd⟩ := tyOf_ok hok
  have hne : ∀ ms, d ≠ .interface ms := by
    rintro ms rfl
    apply hu
    rw [tyOf_some hi]
    simp [udOf, hd]
  have : (Instr.makeInterface T (ρ x)).run P w = .ok (.iface T (ρ x)) w := by
    unfold Instr.makeInterface
    simp only [Sem.run_bind, run_underlying hd, Result.andThen_ok]
    cases d <;> first | rfl | exact absurd rfl (hne _)
  simp [execOp, ho, this]

theorem vrel_list {l : List Operand} (h : ∀ x ∈ l, TRel g w p (ev x) (ρ x)) (hh : (l.map ev).all (·.handed) = true) :
    ∀ (i : Nat) a c, (l.map ev)[i]? = some a → (l.map ρ)[i]? = some c → VRel g w a c := by
  intro i a c ha hc
  rw [List.getElem?_map] at ha hc
  cases hx : l[i]? with
  | none => rw [hx] at ha; cases ha
  | some x =>
    rw [hx] at ha hc
    injection ha with ha; injection hc with hc
    subst ha hc
    have hm := List.mem_of_getElem? hx
    exact (h x hm).handed (List.all_eq_true.1 hh _ (List.mem_map_of_mem hm))

theorem op_makeFunc {fn : Fn} {first captured : Array Operand} (ho : o.op = .makeFunc fn first captured) (hH : HRel g H w) (hL : LvRel N g p H w lv)
    (h1 : ∀ x ∈ first.toList, TRel g w p (ev x) (ρ x)) (h2 : ∀ x ∈ captured.toList, TRel g w p (ev x) (ρ x))
    (h3 : (first.toList.map ev).all (·.handed) = true) (h4 : (captured.toList.map ev).all (·.handed) = true) :
    OpOk P N g p H w lv o ev ρ (.func fn (first.toList.map ev) (captured.toList.map ev)) lv H := by
  refine ok_pure (c := .func fn (first.toList.map ρ).toArray (captured.toList.map ρ).toArray) hH hL ?_ (.func fn (by simp) (by simp) (vrel_list h1 h3) (vrel_list h2 h4))
  simp [execOp, ho, Instr.makeFunc]
  constructor <;> (apply Array.ext'; simp)

theorem op_nilCheck_ptr {x : Operand} {id off : Nat} (ho : o.op = .nilCheck x) (hH : HRel g H w) (hL : LvRel N g p H w lv) (hx : TRel g w p (.ptr id off) (ρ x)) :
    OpOk P N g p H w lv o ev ρ (.ptr id off) lv H := by
  have hv : VRel g w (.ptr id off) (ρ x) := hx
  refine ok_pure (c := ρ x) hH hL ?_ hv
  generalize hc : ρ x = c at hv
  cases hv
  simp [execOp, ho, hc]

theorem op_nilCheck_func {x : Operand} {f : FuncId} {a b : List AVal} (ho : o.op = .nilCheck x) (hH : HRel g H w) (hL : LvRel N g p H w lv) (hx : TRel g w p (.func (.func f) a b) (ρ x)) :
    OpOk P N g p H w lv o ev ρ (.func (.func f) a b) lv H := by
  have hv : VRel g w (.func (.func f) a b) (ρ x) := hx
  refine ok_pure (c := ρ x) hH hL ?_ hv
  generalize hc : ρ x = c at hv
  cases hv
  simp [execOp, ho, hc]

theorem op_nilCheck_iface {x : Operand} {t : TypeId} {y : AVal} (ho : o.op = .nilCheck x) (hH : HRel g H w) (hL : LvRel N g p H w lv) (hx : TRel g w p (.iface t y) (ρ x)) :
    OpOk P N g p H w lv o ev ρ (.iface t y) lv H := by
  have hv : VRel g w (.iface t y) (ρ x) := hx
  refine ok_pure (c := ρ x) hH hL ?_ hv
  generalize hc : ρ x = c at hv
  cases hv
  simp [execOp, ho, hc]

end
end Go.Rs
end
/- Operators. -/
section
namespace Go.Rs
section
variable {P : Program} {E : Env} {N : Nat} {g : Gh} {p : Nat → Option Nat} {H : Hp} {w : World} {lv : Lv} {o : Oper} {ev : Operand → AVal} {ρ : Operand → Value} {r : AVal}

theorem run_arith {op : BinOp} {k : IntKind} {a b : Int} {T : TypeId} (h : arith op k a b = some r) (hs : op ≠ .shl) (hs' : op ≠ .shr) :
    ∃ c, (binOp op T (.int k a) (.int k b)).run P w = .ok c w ∧ VRel g w r c := by
  unfold arith at h
  cases op <;> simp only [Option.some.injEq, reduceCtorEq] at h <;> first
    | exact absurd rfl hs
    | exact absurd rfl hs'
    | (subst h; exact ⟨_, by simp [binOp, Op.intArith, Op.intBits, Op.intCmp], .int _ _⟩)
    | (subst h; exact ⟨_, by simp [binOp, Op.intArith, Op.intBits, Op.intCmp], .bool _⟩)
    | (split at h
       · cases h
       · rename_i hb; injection h with h; subst h; exact ⟨_, by simp [binOp, Op.intDiv, hb], .int _ _⟩)

theorem bytesLess_eq : ∀ a b : List UInt8, Rs.bytesLess a b = Op.bytesLess a b
  | _, [] => by simp [Rs.bytesLess, Op.bytesLess]
  | [], _ :: _ => by simp [Rs.bytesLess, Op.bytesLess]
  | a :: x, b :: y => by simp [Rs.bytesLess, Op.bytesLess, bytesLess_eq x y]

theorem run_strOp {op : BinOp} {a b : ByteArray} {T : TypeId} (h : strOp op a b = some r) :
    ∃ c, (binOp op T (.string a) (.string b)).run P w = .ok c w ∧ VRel g w r c := by
  unfold strOp at h
  cases op <;> simp only [Option.some.injEq, reduceCtorEq] at h <;> first
    | (subst h; refine ⟨.bool _, ?_, .bool _⟩; simp [binOp, Op.stringOp, bytesLess_eq, ByteArray.toList_eq]; done)
    | (split at h
       · rename_i hb
         injection h with h; subst h
         refine ⟨.string (a ++ b), ?_, .str _⟩
         have hb' : ¬ (IntKind.i64.max < ((a.size + b.size : Nat) : Int)) := by
           have : IntKind.i64.max = 9223372036854775807 := by decide
           rw [this]; omega
         have hb2 : ¬ (IntKind.i64.max < (a.size : Int) + (b.size : Int)) := by simpa using hb'
         simp [binOp, Op.stringOp]; omega
       · cases h)

/-- '==' one level down, at a type that is known -/
def eqAt (d : Nat) (T : TypeId) (x y : Value) (u : TypeDesc) : Sem Bool :=
  match u, x, y with
  | .bool, .bool a, .bool b => pure (a == b)
  | .pointer _, .pointer none, .pointer b => pure b.isNone
  | .pointer _, .pointer (some _), .pointer none => pure false
  | .interface _, .nilIface, .nilIface => pure true
  | .interface _, .nilIface, .iface _ _ => pure false
  | .interface _, .iface _ _, .nilIface => pure false
  | .slice _, .slice none _ _, .slice b _ _ => pure b.isNone
  | .slice _, .slice (some _) _ _, .slice none _ _ => pure false
  | .map _ _, .map none, .map b => pure b.isNone
  | .map _ _, .map (some _), .map none => pure false
  | .func _ _ _, .nilFunc, .nilFunc => pure true
  | .func _ _ _, .nilFunc, .func _ _ _ => pure false
  | .func _ _ _, .func _ _ _, .nilFunc => pure false
  | _, _, _ => Op.equalIn (d + 1) T x y

theorem run_equalIn_of {T : TypeId} {cx cy : Value} {b : Bool} {d : Nat} {u : TypeDesc} (hd : P.underlying T = some u) (h : (eqAt d T cx cy u).run P w = .ok b w) :
    (Op.equalIn (d + 1) T cx cy).run P w = .ok b w := by
  rw [← h]
  unfold eqAt
  split <;> first
    | rfl
    | (show (Sem.bind (underlying T) _).run P w = _; rw [Sem.run_bind', run_underlying hd]; rfl)

theorem run_equalIn {u : UD} {T : TypeId} {x y : AVal} {cx cy : Value} {b : Bool} {d : Nat} (hu : (tyOf P T).u = u) (hx : VRel g w x cx) (hy : VRel g w y cy) (h : eqlA u x y = some b) :
    (Op.equalIn (d + 1) T cx cy).run P w = .ok b w := by
  unfold eqlA at h
  split at h <;> (try cases h) <;> cases hx <;> cases hy <;> first
    | (have hd := ud_slice hu; exact run_equalIn_of hd rfl)
    | (obtain ⟨ms, hd⟩ := ud_iface hu; exact run_equalIn_of hd rfl)
    | (have hd := ud_map hu; exact run_equalIn_of hd rfl)
    | (obtain ⟨ps, rs, v, hd⟩ := ud_func hu; exact run_equalIn_of hd rfl)
    | (have hd := ud_bool hu; exact run_equalIn_of hd rfl)
    | (have hd := ud_ptr hu; exact run_equalIn_of hd rfl)

theorem eqlA_shape {u : UD} {x y : AVal} {b : Bool} (h : eqlA u x y = some b) : (∀ k n, x ≠ .int k n) ∧ (∀ s, x ≠ .str s) := by
  unfold eqlA at h
  constructor <;> (intros; rintro rfl; split at h <;> simp_all)

theorem run_binOp_eql {T : TypeId} {x y : AVal} {cx cy : Value} (hx : VRel g w x cx) (h : eqlA (tyOf P T).u x y = some true ∨ eqlA (tyOf P T).u x y = some false) :
    binOp .eql T cx cy = (do pure (.bool (← Op.equal T cx cy))) ∧ binOp .neq T cx cy = (do pure (.bool (!(← Op.equal T cx cy)))) := by
  have hs : (∀ k n, x ≠ .int k n) ∧ (∀ s, x ≠ .str s) := by rcases h with h | h <;> exact eqlA_shape h
  have hne : x ≠ .undef := by
    rintro rfl
    rcases h with h | h <;> (unfold eqlA at h; split at h <;> simp_all)
  cases hx <;> first
    | exact absurd rfl hne
    | exact absurd rfl (hs.1 _ _)
    | exact absurd rfl (hs.2 _)
    | exact ⟨rfl, rfl⟩

theorem run_binA {op : BinOp} {T : TypeId} {x y : AVal} {cx cy : Value} (hty : ∀ T, E.ty T = tyOf P T) (hx : VRel g w x cx) (hy : VRel g w y cy) (h : binA E op T x y = some r) :
    ∃ c, (binOp op T cx cy).run P w = .ok c w ∧ VRel g w r c := by
  unfold binA at h
  split at h
  · cases hx; cases hy
    split at h
    · cases h
    · rename_i hb; injection h with h; subst h
      exact ⟨_, by simp [binOp, Op.shift, hb], .int _ _⟩
  · cases hx; cases hy
    split at h
    · cases h
    · rename_i hb; injection h with h; subst h
      exact ⟨_, by simp [binOp, Op.shift, hb], .int _ _⟩
  · rename_i h1 h2
    cases hx; cases hy
    split at h
    · rename_i hk; subst hk
      refine run_arith h ?_ ?_
      · rintro rfl; exact h1 rfl
      · rintro rfl; exact h2 rfl
    · cases h
  · cases hx; cases hy
    exact run_strOp h
  · rw [hty] at h
    cases hb : eqlA (tyOf P T).u x y with
    | none => rw [hb] at h; cases h
    | some b =>
      rw [hb] at h; simp only [Option.map_some, Option.some.injEq] at h; subst h
      refine ⟨.bool b, ?_, .bool _⟩
      rw [(run_binOp_eql hx (by cases b; exact .inr hb; exact .inl hb)).1]
      simp only [Sem.run_bind, Op.equal, Op.maxDepth]
      rw [run_equalIn rfl hx hy hb]; rfl
  · rw [hty] at h
    cases hb : eqlA (tyOf P T).u x y with
    | none => rw [hb] at h; cases h
    | some b =>
      rw [hb] at h; simp only [Option.map_some, Option.some.injEq] at h; subst h
      refine ⟨.bool (!b), ?_, .bool _⟩
      rw [(run_binOp_eql hx (by cases b; exact .inr hb; exact .inl hb)).2]
      simp only [Sem.run_bind, Op.equal, Op.maxDepth]
      rw [run_equalIn rfl hx hy hb]; rfl
  · cases h

theorem run_eqGuard {op : BinOp} {T : TypeId} {x y : Operand} {a b : AVal} {ca cb : Value} (ha : VRel g w a ca) (hb : VRel g w b cb) (hr : binA E op T a b = some r)
    (h : (nilNil a b && !isConst x && !isConst y) = false) : (eqGuard op T x y ca cb).run P w = .ok () w := by
  unfold eqGuard
  have hop : (!(op matches .eql | .neq)) = true ∨ op = .eql ∨ op = .neq := by cases op <;> simp
  rcases hop with hop | hop
  · cases op <;> first | rfl | simp at hop
  · have hagg : ∀ l, a ≠ .agg l := by
      rintro l rfl
      unfold binA at hr
      rcases hop with rfl | rfl <;> simp [eqlA] at hr
    have hund : a ≠ .undef := by
      rintro rfl
      unfold binA at hr
      rcases hop with rfl | rfl <;> simp [eqlA] at hr
    have hnil : a = .niliface → cb = .nilIface → (isConst x || isConst y) = true := by
      rintro rfl rfl
      have : b = .niliface ∨ b = .undef := by cases hb <;> simp
      rcases this with rfl | rfl
      · cases hx : isConst x <;> cases hy : isConst y <;> simp_all [nilNil]
      · unfold binA at hr
        rcases hop with rfl | rfl <;> simp [eqlA] at hr
    cases ha <;> first
      | exact absurd rfl hund
      | exact absurd rfl (hagg _)
      | (rcases hop with rfl | rfl <;> simp; done)
      | skip
    cases hcb : cb <;> first
      | (rcases hop with rfl | rfl <;> simp; done)
      | skip
    have := hnil rfl hcb
    rcases hop with rfl | rfl <;> cases x <;> cases y <;> simp [isConst] at this ⊢

theorem op_binOp (hE : EnvOk P E) {op : BinOp} {T yT : TypeId} {x y : Operand} (ho : o.op = .binOp op T x y yT) (hH : HRel g H w) (hL : LvRel N g p H w lv)
    (hx : TRel g w p (ev x) (ρ x)) (hy : TRel g w p (ev y) (ρ y)) (h : binA E op T (ev x) (ev y) = some r)
    (hn : (nilNil (ev x) (ev y) && !isConst x && !isConst y) = false) : OpOk P N g p H w lv o ev ρ r lv H := by
  have nl : (∀ t off, ev x ≠ .lptr t off) ∧ ∀ t off, ev y ≠ .lptr t off := by
    constructor <;> (intro t off e; rw [e] at h; unfold binA at h; split at h <;> simp_all [eqlA])
  have vx := hx.val nl.1
  have vy := hy.val nl.2
  obtain ⟨c, hrun, hr⟩ := run_binA (P := P) hE.ty vx vy h
  refine ok_pure (c := c) hH hL ?_ hr
  simp [execOp, ho, run_eqGuard (P := P) vx vy h hn, hrun]

theorem op_unOp {op : UnOp} {T : TypeId} {x : Operand} (ho : o.op = .unOp op T x) (hH : HRel g H w) (hL : LvRel N g p H w lv)
    (hx : TRel g w p (ev x) (ρ x)) (h : unA op (ev x) = some r) : OpOk P N g p H w lv o ev ρ r lv H := by
  unfold unA at h
  split at h
  · rename_i k n e
    injection h with h; subst h
    rw [e] at hx
    have := trel_int hx
    exact ok_pure (c := _) hH hL (by simp [execOp, ho, this, Op.unary, Op.intArith]) (.int _ _)
  · rename_i b e
    injection h with h; subst h
    rw [e] at hx
    have := trel_bool hx
    exact ok_pure (c := _) hH hL (by simp [execOp, ho, this, Op.unary]) (.bool _)
  · cases h

end
end Go.Rs
end
/- Addresses, indexing, slicing, loads, stores. -/
section
namespace Go.Rs
section
variable {P : Program} {E : Env} {N : Nat} {g : Gh} {p : Nat → Option Nat} {H : Hp} {w : World} {lv : Lv} {o : Oper} {ev : Operand → AVal} {ρ : Operand → Value} {r : AVal}

/-! ### load -/
theorem at_ptr (hH : HRel g H w) {id b : Nat} {cs : List AVal} (hb : g.mu id = some b) (hg : H.get id = .cells cs) : AtCells g w b 0 cs := by
  have := hH.obj id b hb
  rw [hg] at this
  obtain ⟨_, _, arr, hr, hs, hv⟩ := this
  intro i a ha
  have hi : i < cs.length := (List.getElem?_eq_some_iff.1 ha).1
  have e : arr[i]? = some arr[i] := Array.getElem?_eq_getElem (by omega)
  exact ⟨arr[i], by rw [Nat.zero_add, hr.cell, e], hv i a _ ha e⟩

theorem at_lptr (hL : LvRel N g p H w lv) {t b : Nat} {cs : List AVal} (hb : p t = some b) (hg : lv.get t = some cs) : AtCells g w b 0 cs := by
  obtain ⟨cs', arr, h1, _, _, hr, hs, hv⟩ := hL.one t b hb
  rw [hg] at h1; injection h1 with h1; subst h1
  intro i a ha
  have hi : i < cs.length := (List.getElem?_eq_some_iff.1 ha).1
  have e : arr[i]? = some arr[i] := Array.getElem?_eq_getElem (by omega)
  exact ⟨arr[i], by rw [Nat.zero_add, hr.cell, e], hv i a _ ha e⟩

theorem loadA_rel (hE : EnvOk P E) (hH : HRel g H w) (hL : LvRel N g p H w lv) {T : TypeId} {a : AVal} {c : Value} (ha : TRel g w p a c) (h : loadA E T lv H a = some r) :
    ∃ addr c', c = .pointer (some addr) ∧ (loadVar T addr).run P w = .ok c' w ∧ VRel g w r c' := by
  unfold loadA at h
  rw [hE.ty] at h
  simp only [] at h
  split at h
  · cases h
  · rename_i hok
    have hok : (tyOf P T).ok = true := by simpa using hok
    split at h
    · rename_i t off
      obtain ⟨b, hb, rfl⟩ := ha
      split at h
      · rename_i cs hcs
        obtain ⟨c', h1, h2⟩ := run_loadVar' hok (at_lptr hL hb hcs) h
        exact ⟨_, c', rfl, by simpa using h1, h2⟩
      · cases h
    · rename_i id off
      have hv : VRel g w (.ptr id off) c := ha
      cases hv with
      | @ptr id b _ hb =>
        split at h
        · rename_i cs hcs
          obtain ⟨c', h1, h2⟩ := run_loadVar' hok (at_ptr hH hb hcs) h
          exact ⟨_, c', rfl, by simpa using h1, h2⟩
        · cases h
    · rename_i xs k off
      have hv : VRel g w (.eptr xs k off) c := ha
      cases hv with
      | eptr _ _ b o' sz f hl hs hc hv =>
        split at h
        · rename_i x hx
          have hfit := hs x (List.mem_of_getElem? hx)
          have hk : k < xs.length := (List.getElem?_eq_some_iff.1 hx).1
          have hat : AtCells g w b (o' + k * sz) x.cells := by
            intro j a ha
            have hj : j < sz := by
              have := (List.getElem?_eq_some_iff.1 ha).1
              rw [hfit.1] at this; exact this
            have hlt : k * sz + j < xs.length * sz := by
              calc k * sz + j < k * sz + sz := by omega
                _ = (k + 1) * sz := by rw [Nat.add_mul]; omega
                _ ≤ xs.length * sz := Nat.mul_le_mul_right _ hk
            exact ⟨f (k * sz + j), by rw [Nat.add_assoc]; exact hc _ hlt, hv k x j a hx ha⟩
          obtain ⟨c', h1, h2⟩ := run_loadVar' hok hat h
          exact ⟨_, c', rfl, h1, h2⟩
        · cases h
    · cases h

theorem op_load (hE : EnvOk P E) {T : TypeId} {a : Operand} (ho : o.op = .load T a) (hH : HRel g H w) (hL : LvRel N g p H w lv) (ha : TRel g w p (ev a) (ρ a))
    (h : loadA E T lv H (ev a) = some r) : OpOk P N g p H w lv o ev ρ r lv H := by
  obtain ⟨addr, c, h1, h2, h3⟩ := loadA_rel hE hH hL ha h
  refine ok_pure (c := c) hH hL ?_ h3
  simp [execOp, ho, Instr.loadAt, Instr.sureAddr, h1, h2]

/-! ### store -/
theorem cells_rel {a : AVal} {c : Value} (h : VRel g w a c) (hone : a.cells.all (·.oneCell) = true) : CRel g w a.cells c.cells.toList ∧ ∀ v ∈ c.cells.toList, v.oneCell' = true := by
  have hall : ∀ x ∈ a.cells, x.oneCell = true := fun x hx => by simpa using List.all_eq_true.1 hone x hx
  have hc := h.cells (by rintro rfl; have := hall .undef (by simp [AVal.cells]); simp [AVal.oneCell] at this)
    (by rintro l rfl; have := hall (.tuple l) (by simp [AVal.cells]); simp [AVal.oneCell] at this)
  refine ⟨hc, fun v hv => ?_⟩
  obtain ⟨i, hi⟩ := List.getElem?_of_mem hv
  have hlt : i < a.cells.length := by rw [hc.len]; exact (List.getElem?_eq_some_iff.1 hi).1
  have e : a.cells[i]? = some a.cells[i] := List.getElem?_eq_getElem hlt
  exact (hc.rel i _ v e hi).one (hall _ (List.getElem_mem hlt))

theorem allOne_set {vs cs cs' : List AVal} {off : Nat} (h1 : ∀ a ∈ cs, a.oneCell = true) (h2 : ∀ a ∈ vs, a.oneCell = true) (h : setCells off vs cs = some cs') : ∀ a ∈ cs', a.oneCell = true := by
  obtain ⟨e1, e2, e3⟩ := setCells_spec vs off cs cs' h
  intro a ha
  obtain ⟨i, hi⟩ := List.getElem?_of_mem ha
  rw [e3] at hi
  split at hi
  · exact h2 a (List.mem_of_getElem? hi)
  · exact h1 a (List.mem_of_getElem? hi)

theorem heap_setRow_ne {b : Nat} {arr : Array Value} : ∀ c, c ≠ b → (w.setRow b arr).heap[c]? = w.heap[c]? := fun c hc => setRow_other w b c arr hc

/-- cells of an object laid anew -/
theorem step_setCells (hH : HRel g H w) {id b off : Nat} {cs vs cs' : List AVal} {vs' : List Value} (hb : g.mu id = some b) (hg : H.get id = .cells cs) (hc : CRel g w vs vs')
    (hone : ∀ v ∈ vs', v.oneCell' = true) (hone' : ∀ a ∈ vs, a.oneCell = true) (hset : setCells off vs cs = some cs') :
    ∃ w', (storeCells ⟨b, off, none⟩ vs').run P w = .ok () w' ∧ Step N g H w g (H.set id (.cells cs')) w' ∧ w'.heap.size = w.heap.size ∧ (∀ c, c ≠ b → w'.heap[c]? = w.heap[c]?) := by
  have ho := hH.obj id b hb
  rw [hg] at ho
  obtain ⟨hlim, hall, arr, hr, hs, hv⟩ := ho
  obtain ⟨arr', hrun, hsz, hle, hv'⟩ := row_splice (P := P) hr hs hv hc hset hone
  refine ⟨_, hrun, ?_, by simp, heap_setRow_ne⟩
  refine Step.write hH hb (by unfold Alive; rw [hg]; simp) (by simp) hlim (by simp) heap_setRow_ne ?_ (.setRow hr hsz) ?_
  · rw [hr.size, (hr.set arr').size, hsz]; exact Nat.le_refl _
  · intro ext
    exact ⟨hlim, allOne_set hall hone' hset, arr', hr.set arr', hle, fun i a c ha hc' => (hv' i a c ha hc').mono ext⟩

theorem op_store (hE : EnvOk P E) {T : TypeId} {a x : Operand} (ho : o.op = .store T a x) (hH : HRel g H w) (hL : LvRel N g p H w lv) (hN : N ≤ w.heap.size)
    (ha : TRel g w p (ev a) (ρ a)) (hx : TRel g w p (ev x) (ρ x)) {lv' : Lv} {H' : Hp} (h : storeA E T lv H (ev a) (ev x) = some (lv', H')) : OpOk P N g p H w lv o ev ρ .undef lv' H' := by
  unfold storeA at h
  rw [hE.ty] at h
  simp only [] at h
  split at h
  · rename_i hcond
    obtain ⟨hok, hlen, hone⟩ := hcond
    have hxl : ∀ t off, ev x ≠ .lptr t off := by
      intro t off e
      rw [e] at hone; simp [AVal.cells, AVal.oneCell] at hone
    obtain ⟨hcr, hone'⟩ := cells_rel (hx.val hxl) hone
    have hall : ∀ y ∈ (ev x).cells, y.oneCell = true := fun y hy => by simpa using List.all_eq_true.1 hone y hy
    have hsz : (ρ x).cells.size = (tyOf P T).size := by
      have := hcr.len; rw [hlen] at this; simpa using this.symm
    split at h
    · rename_i t off e
      rw [e] at ha
      obtain ⟨b, hb, hρ⟩ := ha
      split at h
      · rename_i cs hcs
        split at h
        · rename_i cs' hset
          split at h
          · rename_i htm
            injection h with h
            injection h with h1 h2
            subst h1 h2
            obtain ⟨cs0, arr, g1, hlim, hallc, hr, hs, hv⟩ := hL.one t b hb
            rw [hcs] at g1; injection g1 with g1; subst g1
            obtain ⟨arr', hrun, hsz', hle, hv'⟩ := row_splice (P := P) hr hs hv hcr hset hone'
            have hst : Step N g H w g H (w.setRow b arr') :=
              Step.own hH (hL.lt t b hb).1 (hL.lt t b hb).2 (hL.priv t b hb) hlim (by simp) heap_setRow_ne (by rw [hr.size, (hr.set arr').size, hsz']; exact Nat.le_refl _) (.setRow hr hsz')
            refine ⟨.skip, undef, _, g, p, ?_, .inr ⟨rfl, rfl⟩, hst, ?_, .of (.undef _), fun _ _ => rfl, ?_, Nat.le_refl _⟩
            · simp [execOp, ho, Instr.storeAt, Instr.sureAddr, hρ, run_storeVar' hok hsz hrun]
            · refine ⟨fun u c hc => ?_, hL.inj, fun u c hc hh => hL.priv u c hc hh, fun u c hc => ?_, fun u c hc => hL.nx u c hc⟩
              · by_cases hut : t = u
                · subst hut
                  rw [hb] at hc; injection hc with hc; subst hc
                  exact ⟨cs', arr', by rw [Lv.get_set _ _ _ _ htm, if_pos rfl], hlim, allOne_set hallc hall hset, hr.set arr', hle, fun i a c ha hc' => (hv' i a c ha hc').mono hst.ext⟩
                · obtain ⟨cs2, arr2, k1, k2, k3, k4, k5, k6⟩ := hL.one u c hc
                  have hcb : c ≠ b := by rintro rfl; exact hut (hL.inj t u c hb hc)
                  exact ⟨cs2, arr2, by rw [Lv.get_set _ _ _ _ htm, if_neg hut]; exact k1, k2, k3, k4.of_heap (heap_setRow_ne c hcb), k5, fun i a d ha hd => (k6 i a d ha hd).mono hst.ext⟩
              · have := hL.lt u c hc; simpa using this
            · intro u _ hu
              have hut : t ≠ u := by rintro rfl; rw [hb] at hu; cases hu
              rw [Lv.get_set _ _ _ _ htm, if_neg hut]
          · cases h
        · cases h
      · cases h
    · rename_i id off e
      rw [e] at ha
      have hva : VRel g w (.ptr id off) (ρ a) := ha
      generalize hρ : ρ a = ca at hva
      cases hva with
      | @ptr _ b _ hb =>
        split at h
        · rename_i cs hcs
          split at h
          · rename_i cs' hset
            injection h with h
            injection h with h1 h2
            subst h1 h2
            obtain ⟨w', hrun, hst, hsz', hoth⟩ := step_setCells (P := P) (N := w.heap.size) hH hb hcs hcr hone' hall hset
            refine ⟨.skip, undef, w', g, p, ?_, .inr ⟨rfl, rfl⟩, hst.weaken hN, hL.step hst, .of (.undef _), fun _ _ => rfl, fun _ _ _ => rfl, Nat.le_refl _⟩
            simp [execOp, ho, Instr.storeAt, Instr.sureAddr, hρ, run_storeVar' hok hsz hrun]
          · cases h
        · cases h
    · cases h
  · cases h

end
end Go.Rs
end
/- Addresses of parts, indexing, slicing. -/
section
namespace Go.Rs
section
variable {P : Program} {E : Env} {N : Nat} {g : Gh} {p : Nat → Option Nat} {H : Hp} {w : World} {lv : Lv} {o : Oper} {ev : Operand → AVal} {ρ : Operand → Value} {r : AVal}

theorem ok_addr {c : Value} {x : Operand} (hH : HRel g H w) (hL : LvRel N g p H w lv) (hrun : (execOp ρ o).run P w = .ok (.value c) w) (hr : TRel g w p r c)
    (hx : x ∈ o.op.operands) (hd : ∀ u off, r = .lptr u off → ∃ off', ev x = .lptr u off') :
    OpOk P N g p H w lv o ev ρ r lv H :=
  ⟨_, c, w, g, p, hrun, .inl rfl, .refl hH, hL, hr, fun _ _ => rfl, fun _ _ _ => rfl, Nat.le_refl _⟩

/-- an address, moved on -/
theorem addOff_rel {k : Nat} {a : AVal} {c : Value} (h : TRel g w p a c) (ha : addOff k a = some r) :
    ∃ b o, c = .pointer (some ⟨b, o, none⟩) ∧ TRel g w p r (.pointer (some ⟨b, o + k, none⟩)) ∧ (∀ u off, r = .lptr u off → ∃ off', a = .lptr u off') := by
  unfold addOff at ha
  split at ha <;> (try cases ha)
  · rename_i id o
    have hv : VRel g w (.ptr id o) c := h
    cases hv with
    | @ptr _ b _ hb => exact ⟨b, o, rfl, VRel.ptr _ hb, fun _ _ e => by cases e⟩
  · rename_i t o
    obtain ⟨b, hb, rfl⟩ := h
    exact ⟨b, o, rfl, ⟨b, hb, rfl⟩, fun u off e => by injection e with e1 e2; subst e1; exact ⟨o, rfl⟩⟩
  · rename_i xs i o
    have hv : VRel g w (.eptr xs i o) c := h
    cases hv with
    | eptr _ _ b o' sz f hl hs hc hv =>
      refine ⟨b, _, rfl, ?_, fun _ _ e => by cases e⟩
      have := VRel.eptr (g := g) (w := w) i (o + k) b o' sz f hl hs hc hv
      rw [← Nat.add_assoc] at this
      exact this

theorem op_fieldAddr (hE : EnvOk P E) {T : TypeId} {x : Operand} {k : Nat} (ho : o.op = .fieldAddr T x k) (hH : HRel g H w) (hL : LvRel N g p H w lv) (hx : TRel g w p (ev x) (ρ x))
    {fs : List (Nat × TypeId)} {off : Nat} {t : TypeId} (hu : (tyOf P T).u = .struct fs) (hf : fs[k]? = some (off, t)) (hsz : (tyOf P t).size ≠ 0) (hok : (tyOf P t).ok = true)
    (h : addOff off (ev x) = some r) : OpOk P N g p H w lv o ev ρ r lv H := by
  obtain ⟨F, hF, rfl⟩ := ud_struct hu
  obtain ⟨b, oo, hc, hr, hd⟩ := addOff_rel hx h
  rw [List.getElem?_map] at hf
  cases hfk : F.toList[k]? with
  | none => rw [hfk] at hf; cases hf
  | some f =>
    rw [hfk] at hf
    simp only [Option.map_some, Option.some.injEq, Prod.mk.injEq] at hf
    obtain ⟨rfl, rfl⟩ := hf
    have hfk' : F[k]? = some f := by rw [← Array.getElem?_toList]; exact hfk
    refine ok_addr (x := x) hH hL ?_ hr (by simp [ho, Op.operands]) hd
    simp [execOp, ho, Instr.fieldAt, run_underlying hF, hfk', hc, Instr.sureAddr, fieldPlace, run_sizeOf' hok, hsz, addr_add]

theorem run_asIntOf {k : IntKind} {n : Int} : (asIntOf (.int k n)).run P w = .ok (k, n) w := rfl

theorem op_indexAddr_list (hE : EnvOk P E) {T : TypeId} {x ix : Operand} (ho : o.op = .indexAddr T x ix) (hH : HRel g H w) (hL : LvRel N g p H w lv)
    {e : TypeId} {k : IntKind} {i : Int} {xs : List AVal} {tok : Tok} {sz : Nat} (hu : (tyOf P T).u = .slice e) (hx : TRel g w p (.list xs tok sz) (ρ x)) (hi : TRel g w p (.int k i) (ρ ix))
    (h1 : 0 ≤ i) (h2 : i < xs.length) (hok : (tyOf P e).ok = true) (hsz : sz = (tyOf P e).size) : OpOk P N g p H w lv o ev ρ (.eptr xs i.toNat 0) lv H := by
  have hd := ud_slice hu
  have ei := trel_int hi
  have hv : VRel g w (.list xs tok sz) (ρ x) := hx
  generalize hc : ρ x = c at hv
  cases hv with
  | list _ b o' cap f hl hs hcl hvl hcap hrow ht =>
    have hr := VRel.eptr (g := g) (w := w) i.toNat 0 b o' sz f hl hs hcl hvl
    refine ok_pure (c := _) hH hL ?_ hr
    simp [execOp, ho, Instr.indexAt, ei, run_asIntOf, run_underlying hd, hc, h1, h2, run_sizeOf' hok, addr_add, hsz]

theorem op_indexAddr_sl (hE : EnvOk P E) {T : TypeId} {x ix : Operand} (ho : o.op = .indexAddr T x ix) (hH : HRel g H w) (hL : LvRel N g p H w lv)
    {e : TypeId} {k : IntKind} {i : Int} {id off len sz : Nat} (hu : (tyOf P T).u = .slice e) (hx : TRel g w p (.sl id off len sz) (ρ x)) (hi : TRel g w p (.int k i) (ρ ix))
    (h1 : 0 ≤ i) (h2 : i < len) (hok : (tyOf P e).ok = true) (hsz : sz = (tyOf P e).size) : OpOk P N g p H w lv o ev ρ (.ptr id (off + i.toNat * sz)) lv H := by
  have hd := ud_slice hu
  have ei := trel_int hi
  have hv : VRel g w (.sl id off len sz) (ρ x) := hx
  generalize hc : ρ x = c at hv
  cases hv with
  | @sl _ b _ _ _ cap hb hcap hrow =>
    refine ok_pure (c := _) hH hL ?_ (VRel.ptr (off + i.toNat * sz) hb)
    simp [execOp, ho, Instr.indexAt, ei, run_asIntOf, run_underlying hd, hc, h1, h2, run_sizeOf' hok, addr_add, hsz]
  | sl0 => omega

theorem op_indexAddr_arr (hE : EnvOk P E) {T : TypeId} {x ix : Operand} (ho : o.op = .indexAddr T x ix) (hH : HRel g H w) (hL : LvRel N g p H w lv)
    {e : TypeId} {k : IntKind} {i : Int} {n : Nat} (hu : (tyOf P T).u = .arr n e) (hx : TRel g w p (ev x) (ρ x)) (hi : TRel g w p (.int k i) (ρ ix))
    (h1 : 0 ≤ i) (h2 : i < n) (hok : (tyOf P e).ok = true) (h : addOff (i.toNat * (tyOf P e).size) (ev x) = some r) : OpOk P N g p H w lv o ev ρ r lv H := by
  have hd := ud_arr hu
  have ei := trel_int hi
  obtain ⟨b, oo, hc, hr, hdd⟩ := addOff_rel hx h
  refine ok_addr (x := x) hH hL ?_ hr (by simp [ho, Op.operands]) hdd
  simp [execOp, ho, Instr.indexAt, ei, run_asIntOf, run_underlying hd, hc, h1, h2, run_sizeOf' hok, addr_add, Instr.sureAddr]

/-! ### field, index -/
theorem run_part {T : TypeId} {cs : List AVal} {cs' : List Value} {off : Nat} (hok : (tyOf P T).ok = true) (hlen : cs.length = cs'.length)
    (hc : ∀ (i : Nat) a c, cs[i]? = some a → cs'[i]? = some c → VRel g w a c) (h : takeCells (isAgg (tyOf P T).u) (tyOf P T).size off cs = some r) :
    ∃ c, (part T cs'.toArray off).run P w = .ok c w ∧ VRel g w r c := by
  unfold part
  simp only [Sem.run_bind, run_isAgg' hok, Result.andThen_ok]
  unfold takeCells at h
  cases hu : isAgg (tyOf P T).u with
  | true =>
    rw [hu] at h
    simp only [if_true] at h ⊢
    split at h
    · rename_i hl
      injection h with h; subst h
      refine ⟨.agg ((cs'.drop off).take (tyOf P T).size).toArray, ?_, .agg ?_ ?_⟩
      · simp only [Sem.run_bind, run_sizeOf' hok, Result.andThen_ok, Sem.run_pure]
        congr 2
        apply Array.ext'
        simp [List.extract_eq_take_drop]
      · simp [hlen]
      · intro i a c ha hc'
        rw [List.getElem?_take] at ha hc'
        split at ha
        · rename_i hi
          rw [if_pos hi] at hc'
          rw [List.getElem?_drop] at ha hc'
          exact hc _ a c ha hc'
        · cases ha
    · cases h
  | false =>
    rw [hu] at h
    simp only [Bool.false_eq_true, if_false] at h ⊢
    have hlt : off < cs'.length := by have := (List.getElem?_eq_some_iff.1 h).1; omega
    have e : cs'[off]? = some cs'[off] := List.getElem?_eq_getElem hlt
    exact ⟨cs'[off], by simp [e], hc _ _ _ h e⟩

theorem op_field (hE : EnvOk P E) {T : TypeId} {x : Operand} {k : Nat} (ho : o.op = .field T x k) (hH : HRel g H w) (hL : LvRel N g p H w lv)
    {fs : List (Nat × TypeId)} {off : Nat} {t : TypeId} {cs : List AVal} (hu : (tyOf P T).u = .struct fs) (hx : TRel g w p (.agg cs) (ρ x)) (hf : fs[k]? = some (off, t)) (hok : (tyOf P t).ok = true)
    (h : takeCells (isAgg (tyOf P t).u) (tyOf P t).size off cs = some r) : OpOk P N g p H w lv o ev ρ r lv H := by
  obtain ⟨F, hF, rfl⟩ := ud_struct hu
  rw [List.getElem?_map] at hf
  cases hfk : F.toList[k]? with
  | none => rw [hfk] at hf; cases hf
  | some f =>
    rw [hfk] at hf
    simp only [Option.map_some, Option.some.injEq, Prod.mk.injEq] at hf
    obtain ⟨rfl, rfl⟩ := hf
    have hfk' : F[k]? = some f := by rw [← Array.getElem?_toList]; exact hfk
    have hv : VRel g w (.agg cs) (ρ x) := hx
    generalize hc : ρ x = c at hv
    cases hv with
    | @agg _ cs' hl hvl =>
      obtain ⟨c, h1, h2⟩ := run_part (P := P) hok hl hvl h
      refine ok_pure (c := c) hH hL ?_ h2
      simp [execOp, ho, Instr.field, run_underlying hF, hfk', hc, asAgg, h1]

theorem op_index_str (hE : EnvOk P E) {T : TypeId} {x ix : Operand} (ho : o.op = .index T x ix) (hH : HRel g H w) (hL : LvRel N g p H w lv)
    {k : IntKind} {i : Int} {s : ByteArray} (hu : (tyOf P T).u = .str) (hx : TRel g w p (.str s) (ρ x)) (hi : TRel g w p (.int k i) (ρ ix)) (h1 : 0 ≤ i) (h2 : i < s.size) :
    OpOk P N g p H w lv o ev ρ (.int .u8 (s.data.getD i.toNat 0).toNat) lv H := by
  have hd := ud_str hu
  have ei := trel_int hi
  have ex := trel_str hx
  have hlt : i.toNat < s.size := by omega
  have e : s[i.toNat]? = some (s.data.getD i.toNat 0) := by
    have h3 : s[i.toNat]? = some s[i.toNat] := getElem?_pos s i.toNat hlt
    rw [h3]
    congr 1
    show s.data[i.toNat] = _
    have : i.toNat < s.data.size := hlt
    simp [Array.getD]
    intro h4; omega
  refine ok_pure (c := .int .u8 (s.data.getD i.toNat 0).toNat) hH hL ?_ (.int _ _)
  simp [execOp, ho, Instr.index, ei, ex, run_asIntOf, run_underlying hd, h1, e]

theorem op_index_arr (hE : EnvOk P E) {T : TypeId} {x ix : Operand} (ho : o.op = .index T x ix) (hH : HRel g H w) (hL : LvRel N g p H w lv)
    {k : IntKind} {i : Int} {n : Nat} {e : TypeId} {cs : List AVal} (hu : (tyOf P T).u = .arr n e) (hx : TRel g w p (.agg cs) (ρ x)) (hi : TRel g w p (.int k i) (ρ ix)) (h1 : 0 ≤ i) (h2 : i < n)
    (hok : (tyOf P e).ok = true) (h : takeCells (isAgg (tyOf P e).u) (tyOf P e).size (i.toNat * (tyOf P e).size) cs = some r) : OpOk P N g p H w lv o ev ρ r lv H := by
  have hd := ud_arr hu
  have ei := trel_int hi
  have hv : VRel g w (.agg cs) (ρ x) := hx
  generalize hc : ρ x = c at hv
  cases hv with
  | @agg _ cs' hl hvl =>
    obtain ⟨c, h3, h4⟩ := run_part (P := P) hok hl hvl h
    refine ok_pure (c := c) hH hL ?_ h4
    simp [execOp, ho, Instr.index, ei, hc, run_asIntOf, run_underlying hd, h1, h2, run_sizeOf' hok, h3]

end
end Go.Rs
end
/- Slicing, lengths, conversions. -/
section
namespace Go.Rs
section
variable {P : Program} {E : Env} {N : Nat} {g : Gh} {p : Nat → Option Nat} {H : Hp} {w : World} {lv : Lv} {o : Oper} {ev : Operand → AVal} {ρ : Operand → Value} {r : AVal}

/-- the bound that an operand gives -/
def BoundIs (cv : Option Value) (dflt most n : Nat) : Prop := (cv = none ∧ n = dflt) ∨ ∃ k i, cv = some (.int k i) ∧ 0 ≤ i ∧ i ≤ (most : Int) ∧ n = i.toNat

theorem bound_is {v : Option AVal} {cv : Option Value} {dflt most n : Nat} (hv : ∀ a, v = some a → ∃ c, cv = some c ∧ TRel g w p a c) (hn : v = none → cv = none)
    (h : bound v dflt most = some n) : BoundIs cv dflt most n ∧ (v.isSome = true → cv.isSome = true) := by
  unfold bound at h
  split at h
  · injection h with h; subst h
    exact ⟨.inl ⟨hn rfl, rfl⟩, by simp⟩
  · rename_i k i
    obtain ⟨c, hc, hr⟩ := hv _ rfl
    have := trel_int hr
    subst this
    split at h
    · rename_i hb
      injection h with h; subst h
      exact ⟨.inr ⟨k, i, hc, hb.1, hb.2, rfl⟩, by rw [hc]; simp⟩
    · cases h
  · cases h

theorem BoundIs.le {cv : Option Value} {dflt most n : Nat} (h : BoundIs cv dflt most n) (hd : dflt ≤ most) : n ≤ most := by
  rcases h with ⟨_, rfl⟩ | ⟨k, i, _, h1, h2, rfl⟩
  · exact hd
  · omega

theorem run_sliceBound {k : IntKind} {i : Int} {y : Nat} {code : BoundsCode} (h1 : 0 ≤ i) (h2 : i ≤ (y : Int)) : (Instr.sliceBound (.int k i) y code).run P w = .ok i.toNat w := by
  simp [Instr.sliceBound, run_asIntOf, h1, h2]

theorem run_sliceBounds {b : Bool} {len cap most hh ll : Nat} {clo chi : Option Value} (h1 : BoundIs chi len most hh) (hm : most ≤ cap) (h2 : BoundIs clo 0 hh ll) :
    (Instr.sliceBounds b len cap clo chi none).run P w = .ok (ll, hh, cap) w := by
  unfold Instr.sliceBounds
  rcases h1 with ⟨rfl, rfl⟩ | ⟨k, i, rfl, a1, a2, rfl⟩ <;> rcases h2 with ⟨rfl, rfl⟩ | ⟨k', i', rfl, b1, b2, rfl⟩
  · simp
  · simp [run_sliceBound b1 b2]
  · have a3 : i ≤ (cap : Int) := by omega
    simp [run_sliceBound a1 a3]
  · have a3 : i ≤ (cap : Int) := by omega
    simp [run_sliceBound a1 a3, run_sliceBound b1 b2]

theorem run_sliceBounds3 {b : Bool} {len cap most hh ll m : Nat} {clo chi cm : Option Value} (h0 : BoundIs cm len most m) (hs : cm.isSome = true) (hm : most ≤ cap)
    (h1 : BoundIs chi m m hh) (hs1 : chi.isSome = true) (h2 : BoundIs clo 0 hh ll) :
    (Instr.sliceBounds b len cap clo chi cm).run P w = .ok (ll, hh, m) w := by
  unfold Instr.sliceBounds
  rcases h0 with ⟨rfl, _⟩ | ⟨k, i, rfl, a1, a2, rfl⟩
  · cases hs
  have a3 : i ≤ (cap : Int) := by omega
  rcases h1 with ⟨rfl, _⟩ | ⟨k1, i1, rfl, c1, c2, rfl⟩
  · cases hs1
  rcases h2 with ⟨rfl, rfl⟩ | ⟨k', i', rfl, b1, b2, rfl⟩
  · simp [run_sliceBound a1 a3, run_sliceBound c1 c2]
  · simp [run_sliceBound a1 a3, run_sliceBound c1 c2, run_sliceBound b1 b2]

theorem op_slice_of {T : TypeId} {x : Operand} {lo hi mx : Option Operand} {c : Value} (ho : o.op = .slice T x lo hi mx) (hd : ∀ n e, P.underlying T ≠ some (.array n e)) {d : TypeDesc} (hu : P.underlying T = some d)
    (hH : HRel g H w) (hL : LvRel N g p H w lv) (hrun : (Instr.slice T (ρ x) (lo.map ρ) (hi.map ρ) (mx.map ρ)).run P w = .ok c w) (hr : VRel g w r c) : OpOk P N g p H w lv o ev ρ r lv H := by
  refine ok_pure (c := c) hH hL ?_ hr
  have : (Instr.sliceAt T (ρ x) (lo.map ρ) (hi.map ρ) (mx.map ρ)).run P w = .ok c w := by
    unfold Instr.sliceAt
    simp only [Sem.run_bind, run_underlying hu, Result.andThen_ok]
    cases d <;> first | exact absurd hu (hd _ _) | exact hrun
  simp [execOp, ho, this]

/-- a piece of a list -/
theorem vrel_piece {xs : List AVal} {tok' : Tok} {b o' sz cap l h m : Nat} {f : Nat → Value}
    (hl : o' + xs.length * sz ≤ g.lim b) (hs : ∀ x ∈ xs, Fit sz x) (hc : ∀ k, k < xs.length * sz → w.cell? ⟨b, o' + k, none⟩ = some (f k))
    (hv : ∀ (i : Nat) x (j : Nat) a, xs[i]? = some x → x.cells[j]? = some a → VRel g w a (f (i * sz + j)))
    (hrow : o' + cap * sz ≤ sizeAt w b) (h1 : l ≤ h) (h2 : h ≤ xs.length) (h3 : h ≤ m) (h4 : m ≤ cap)
    (ht : tokOk g b (if m = l then o' else o' + l * sz) (h - l) sz (m - l) tok') :
    VRel g w (.list ((xs.take h).drop l) tok' sz) (.slice (if m = l then some ⟨b, o', none⟩ else (some ⟨b, o', none⟩ : Option Addr).map (·.add (l * sz))) (h - l) (m - l)) := by
  have hlen : ((xs.take h).drop l).length = h - l := by simp; omega
  have key : ∀ oo, (oo = o' + l * sz ∨ h = l ∧ oo = o') → tokOk g b oo (h - l) sz (m - l) tok' → oo + (m - l) * sz ≤ sizeAt w b →
      VRel g w (.list ((xs.take h).drop l) tok' sz) (.slice (some ⟨b, oo, none⟩) (h - l) (m - l)) := by
    intro oo hoo htok hr
    have e := VRel.list (g := g) (w := w) (xs := (xs.take h).drop l) (sz := sz) tok' b oo (m - l) (fun k => f (l * sz + k)) ?_ ?_ ?_ ?_ (by rw [hlen]; omega) hr (by rw [hlen]; exact htok)
    · rw [hlen] at e; exact e
    · rw [hlen]
      have e1 : l * sz + (h - l) * sz = h * sz := by rw [← Nat.add_mul]; congr 1; omega
      have e2 : h * sz ≤ xs.length * sz := Nat.mul_le_mul_right _ h2
      rcases hoo with rfl | ⟨rfl, rfl⟩
      · omega
      · simp; omega
    · intro x hx
      exact hs x (List.mem_of_mem_take (List.mem_of_mem_drop hx))
    · intro k hk
      rw [hlen] at hk
      have e1 : l * sz + (h - l) * sz = h * sz := by rw [← Nat.add_mul]; congr 1; omega
      have e2 : h * sz ≤ xs.length * sz := Nat.mul_le_mul_right _ h2
      rcases hoo with rfl | ⟨rfl, rfl⟩
      · rw [Nat.add_assoc]; exact hc _ (by omega)
      · simp at hk
    · intro i x j a hx hj
      rw [List.getElem?_drop, List.getElem?_take] at hx
      split at hx
      · have := hv (l + i) x j a hx hj
        rw [Nat.add_mul, Nat.add_assoc] at this
        exact this
      · cases hx
  by_cases hm : m = l
  · rw [if_pos hm] at ht ⊢
    exact key o' (.inr ⟨by omega, rfl⟩) ht (by subst hm; simp; omega)
  · rw [if_neg hm] at ht ⊢
    simp only [Option.map_some, addr_add]
    refine key _ (.inl rfl) ht ?_
    have e1 : l * sz + (m - l) * sz = m * sz := by rw [← Nat.add_mul]; congr 1; omega
    have e2 : m * sz ≤ cap * sz := Nat.mul_le_mul_right _ h4
    omega

theorem sliceA_rel (hE : EnvOk P E) {T : TypeId} {x : AVal} {cx : Value} {lo hi mx : Option AVal} {clo chi cmx : Option Value} (hx : TRel g w p x cx)
    (hlo : ∀ a, lo = some a → ∃ c, clo = some c ∧ TRel g w p a c) (hlo' : lo = none → clo = none)
    (hhi : ∀ a, hi = some a → ∃ c, chi = some c ∧ TRel g w p a c) (hhi' : hi = none → chi = none)
    (hmx : ∀ a, mx = some a → ∃ c, cmx = some c ∧ TRel g w p a c) (hmx' : mx = none → cmx = none)
    (h : sliceA E T H x lo hi mx = some r) :
    (∀ n e, P.underlying T ≠ some (.array n e)) ∧ (∃ d, P.underlying T = some d) ∧ ∃ c, (Instr.slice T cx clo chi cmx).run P w = .ok c w ∧ VRel g w r c := by
  unfold sliceA at h
  rw [hE.ty] at h
  split at h
  · rename_i s hu
    have hd := ud_str hu
    have ex := trel_str hx
    subst ex
    refine ⟨by rw [hd]; simp, ⟨_, hd⟩, ?_⟩
    split at h
    · cases h
    · rename_i hmxn
      have hmxn : mx = none := by cases mx <;> simp_all
      rw [hmx' hmxn]
      split at h
      · rename_i hh hbh
        have b1 := (bound_is hhi hhi' hbh).1
        split at h
        · rename_i ll hbl
          injection h with h; subst h
          have b2 := (bound_is hlo hlo' hbl).1
          rw [cutB_eq]
          refine ⟨.string (s.extract ll hh), ?_, .str _⟩
          unfold Instr.slice
          simp [run_underlying hd, run_sliceBounds (P := P) (b := false) b1 (Nat.le_refl _) b2]
        · cases h
      · cases h
  · rename_i e hu
    have hd := ud_slice hu
    refine ⟨by rw [hd]; simp, ⟨_, hd⟩, ?_⟩
    split at h
    · cases h
    · rename_i len hlen
      split at h
      · -- no max
        rw [hmx' rfl]
        split at h
        · cases h
        · rename_i hh hbh
          have b1 := (bound_is hhi hhi' hbh).1
          have hhle := b1.le (Nat.le_refl _)
          split at h
          · cases h
          · rename_i ll hbl
            have b2 := (bound_is hlo hlo' hbl).1
            have hlle := b2.le (Nat.zero_le _)
            split at h
            · split at h
              · rename_i hok
                injection h with h; subst h
                rw [hE.ty] at hok
                have hv : VRel g w .nilslice cx := hx
                cases hv
                simp [lenOf] at hlen; subst hlen
                obtain rfl : hh = 0 := by omega
                obtain rfl : ll = 0 := by omega
                refine ⟨.slice none 0 0, ?_, .nilslice⟩
                unfold Instr.slice
                simp [run_underlying hd, run_sliceBounds (P := P) (b := true) b1 (Nat.le_refl _) b2, run_sizeOf' hok]
              · cases h
            · rename_i xs tok sz
              split at h
              · rename_i hok
                injection h with h; subst h
                have hok1 := hok.1
                rw [hE.ty] at hok1
                have hszz : sz = (tyOf P e).size := by rw [← hE.ty]; exact hok.2
                have hv : VRel g w (.list xs tok sz) cx := hx
                cases hv with
                | list _ b oo cap f hl hs hc hvv hcap hrow ht =>
                  simp [lenOf] at hlen; subst hlen
                  refine ⟨_, ?_, vrel_piece (tok' := if hh = xs.length then tok else .none) (m := cap) (l := ll) (h := hh) (cap := cap) hl hs hc hvv hrow hlle hhle (by omega) (Nat.le_refl _) ?_⟩
                  · unfold Instr.slice
                    simp [run_underlying hd, run_sliceBounds (P := P) (b := true) b1 hcap b2, run_sizeOf' hok1, hszz]
                  · by_cases hhl : hh = xs.length
                    · rw [if_pos hhl]
                      cases tok with
                      | none => trivial
                      | full =>
                        have : cap = xs.length := ht
                        show cap - ll = hh - ll
                        omega
                      | own t =>
                        have ht : (∃ b', g.mu t = some b') ∧ (cap = xs.length ∨ (g.mu t = some b ∧ g.ka t = oo + xs.length * sz)) := ht
                        obtain ⟨hmu, ht⟩ := ht
                        refine ⟨hmu, ?_⟩
                        rcases ht with ht | ⟨t1, t2⟩
                        · left; omega
                        · by_cases hcl : cap = ll
                          · left; omega
                          · right
                            rw [if_neg hcl]
                            refine ⟨t1, ?_⟩
                            rw [t2, Nat.add_assoc, ← Nat.add_mul]
                            congr 2; omega
                    · rw [if_neg hhl]; trivial
              · cases h
            · rename_i id off ln sz
              split at h
              · rename_i hok
                injection h with h; subst h
                have hok1 := hok.1
                rw [hE.ty] at hok1
                have hszz : sz = (tyOf P e).size := by rw [← hE.ty]; exact hok.2
                have hv : VRel g w (.sl id off ln sz) cx := hx
                simp [lenOf] at hlen; subst hlen
                cases hv with
                | @sl _ b _ _ _ cap hb hcap hrow =>
                  have h3 := run_sliceBounds (P := P) (w := w) (b := true) b1 hcap b2
                  by_cases hcl : cap = ll
                  · refine ⟨.slice (some ⟨b, off, none⟩) 0 0, ?_, ?_⟩
                    · subst hcl
                      unfold Instr.slice
                      have e0 : hh - cap = 0 := by omega
                      simp [run_underlying hd, h3, run_sizeOf' hok1, e0]
                    · have : hh - ll = 0 := by omega
                      rw [this]; exact .sl0 _ _ _ hb
                  · refine ⟨.slice (some ⟨b, off + ll * sz, none⟩) (hh - ll) (cap - ll), ?_, ?_⟩
                    · unfold Instr.slice
                      simp [run_underlying hd, h3, run_sizeOf' hok1, hcl, addr_add, hszz]
                    · refine .sl _ _ _ (cap - ll) hb (by omega) ?_
                      have e1 : ll * sz + (cap - ll) * sz = cap * sz := by rw [← Nat.add_mul]; congr 1; omega
                      omega
                | @sl0 _ b b' _ off' _ hb =>
                  obtain rfl : hh = 0 := by omega
                  obtain rfl : ll = 0 := by omega
                  refine ⟨.slice (some ⟨b', off', none⟩) 0 0, ?_, .sl0 _ _ _ hb⟩
                  unfold Instr.slice
                  simp [run_underlying hd, run_sliceBounds (P := P) (b := true) b1 (Nat.le_refl _) b2, run_sizeOf' hok1]
              · cases h
            · cases h
      · -- max
        rename_i m0
        split at h
        · cases h
        rename_i hhis
        split at h
        · cases h
        · rename_i m hbm
          have b0 := bound_is hmx hmx' hbm
          have hmle := b0.1.le (Nat.le_refl _)
          split at h
          · cases h
          · rename_i hh hbh
            have b1 := bound_is hhi hhi' hbh
            have hhle := b1.1.le (Nat.le_refl _)
            have hs1 : chi.isSome = true := b1.2 (by cases hi <;> simp_all)
            split at h
            · cases h
            · rename_i ll hbl
              have b2 := (bound_is hlo hlo' hbl).1
              have hlle := b2.le (Nat.zero_le _)
              split at h
              · split at h
                · rename_i hok
                  injection h with h; subst h
                  rw [hE.ty] at hok
                  have hv : VRel g w .nilslice cx := hx
                  cases hv
                  simp [lenOf] at hlen; subst hlen
                  obtain rfl : m = 0 := by omega
                  obtain rfl : hh = 0 := by omega
                  obtain rfl : ll = 0 := by omega
                  refine ⟨.slice none 0 0, ?_, .nilslice⟩
                  unfold Instr.slice
                  simp [run_underlying hd, run_sliceBounds3 (P := P) (b := true) b0.1 (b0.2 rfl) (Nat.le_refl _) b1.1 hs1 b2, run_sizeOf' hok]
                · cases h
              · rename_i xs tok sz
                split at h
                · rename_i hok
                  injection h with h; subst h
                  have hok1 := hok.1
                  rw [hE.ty] at hok1
                  have hszz : sz = (tyOf P e).size := by rw [← hE.ty]; exact hok.2
                  have hv : VRel g w (.list xs tok sz) cx := hx
                  cases hv with
                  | list _ b oo cap f hl hs hc hvv hcap hrow ht =>
                    simp [lenOf] at hlen; subst hlen
                    refine ⟨_, ?_, vrel_piece (tok' := if hh = m then .full else .none) (m := m) (l := ll) (h := hh) (cap := cap) hl hs hc hvv hrow hlle (by omega) (by omega) (by omega) ?_⟩
                    · unfold Instr.slice
                      simp [run_underlying hd, run_sliceBounds3 (P := P) (b := true) b0.1 (b0.2 rfl) hcap b1.1 hs1 b2, run_sizeOf' hok1, hszz]
                    · by_cases hhl : hh = m
                      · rw [if_pos hhl]
                        show m - ll = hh - ll
                        omega
                      · rw [if_neg hhl]; trivial
                · cases h
              · cases h
  · cases h

theorem op_slice (hE : EnvOk P E) {T : TypeId} {x : Operand} {lo hi mx : Option Operand} (ho : o.op = .slice T x lo hi mx)
    (hH : HRel g H w) (hL : LvRel N g p H w lv) (hops : ∀ y ∈ o.op.operands, TRel g w p (ev y) (ρ y)) (h : sliceA E T H (ev x) (lo.map ev) (hi.map ev) (mx.map ev) = some r) : OpOk P N g p H w lv o ev ρ r lv H := by
  rw [ho] at hops
  have m1 : TRel g w p (ev x) (ρ x) := hops x (by simp [Op.operands])
  have m2 : ∀ y, lo = some y → TRel g w p (ev y) (ρ y) := fun y hy => hops y (by simp [Op.operands, hy])
  have m3 : ∀ y, hi = some y → TRel g w p (ev y) (ρ y) := fun y hy => hops y (by simp [Op.operands, hy])
  have m4 : ∀ y, mx = some y → TRel g w p (ev y) (ρ y) := fun y hy => hops y (by simp [Op.operands, hy])
  obtain ⟨h1, ⟨d, h2⟩, c, h3, h4⟩ := sliceA_rel (P := P) (clo := lo.map ρ) (chi := hi.map ρ) (cmx := mx.map ρ) hE m1
    (by cases lo <;> simp_all) (by cases lo <;> simp) (by cases hi <;> simp_all) (by cases hi <;> simp) (by cases mx <;> simp_all) (by cases mx <;> simp) h
  exact op_slice_of ho h1 h2 hH hL h3 h4

end
end Go.Rs
end
/- Lengths, conversions, new variables, aggregates. -/
section
namespace Go.Rs
section
variable {P : Program} {E : Env} {N : Nat} {g : Gh} {p : Nat → Option Nat} {H : Hp} {w : World} {lv : Lv} {o : Oper} {ev : Operand → AVal} {ρ : Operand → Value} {r : AVal}

/-! ### builtins -/
theorem exec_builtin {c : Call} {b : Builtin} (ho : o.op = .call c) (hc : c.callee = .builtin b) :
    execOp ρ o = builtin b c.argTypes o.type (c.args.map fun | .const _ => true | _ => false) (c.args.map ρ) := by
  unfold execOp
  rw [ho]
  simp only [resolve, hc]
  rfl

theorem arr_of_toList {α : Type} {a : Array α} {l : List α} (h : a.toList = l) : a = l.toArray := by rw [← h]

theorem vrel_len {a : AVal} {c : Value} {n : Nat} (h : VRel g w a c) (hn : Rs.lenOf a = some n) :
    (∃ s, c = .string s ∧ s.size = n) ∨ ∃ b cap, c = .slice b n cap := by
  cases h <;> simp [Rs.lenOf] at hn
  · exact .inl ⟨_, rfl, hn⟩
  · exact .inr ⟨none, 0, by rw [hn]⟩
  · exact .inr ⟨_, _, by rw [hn]⟩
  · exact .inr ⟨_, _, by rw [hn]⟩
  · exact .inr ⟨_, _, by rw [hn]⟩

theorem op_len (hE : EnvOk P E) {c : Call} {x : Operand} {T : TypeId} {ts : List TypeId} {n : Nat} (ho : o.op = .call c) (hc : c.callee = .builtin .len) (ha : c.args.toList = [x]) (ht : c.argTypes.toList = T :: ts)
    (hH : HRel g H w) (hL : LvRel N g p H w lv) (hx : TRel g w p (ev x) (ρ x)) (hn : Rs.lenOf (ev x) = some n)
    (hu : (∃ s, ev x = .str s) ∧ (tyOf P T).u = .str ∨ (∃ e, (tyOf P T).u = .slice e) ∧ ∀ s, ev x ≠ .str s) : OpOk P N g p H w lv o ev ρ (.int .i64 n) lv H := by
  have hv : VRel g w (ev x) (ρ x) := hx.val (by intro t off e; rw [e] at hn; simp [Rs.lenOf] at hn)
  refine ok_pure (c := .int .i64 n) hH hL ?_ (.int _ _)
  rw [exec_builtin ho hc, arr_of_toList ha, arr_of_toList ht]
  show (do pure (Next.value (← Builtin.len_ _ _ _))).run P w = _
  rcases hu with ⟨⟨s, hs⟩, hu⟩ | ⟨⟨e, hu⟩, hs⟩
  · have hd := ud_str hu
    rw [hs] at hv
    generalize hρ : ρ x = cx at hv
    cases hv
    rw [hs] at hn; simp [Rs.lenOf] at hn
    simp [Builtin.len_, hρ, run_underlying hd, goInt, hn]
  · have hd := ud_slice hu
    rcases vrel_len hv hn with ⟨s, h1, _⟩ | ⟨b, cap, h1⟩
    · exfalso
      rw [h1] at hv
      cases hq : ev x <;> rw [hq] at hv <;> cases hv
      · rw [hq] at hn; simp [Rs.lenOf] at hn
      · exact hs _ hq
    · simp [Builtin.len_, h1, run_underlying hd, goInt]

theorem op_len_arr (hE : EnvOk P E) {c : Call} {x : Operand} {T : TypeId} {ts : List TypeId} {n : Nat} {e : TypeId} (ho : o.op = .call c) (hc : c.callee = .builtin .len) (ha : c.args.toList = [x]) (ht : c.argTypes.toList = T :: ts)
    (hH : HRel g H w) (hL : LvRel N g p H w lv) (hu : (tyOf P T).u = .arr n e) : OpOk P N g p H w lv o ev ρ (.int .i64 n) lv H := by
  have hd := ud_arr hu
  refine ok_pure (c := .int .i64 n) hH hL ?_ (.int _ _)
  rw [exec_builtin ho hc, arr_of_toList ha, arr_of_toList ht]
  show (do pure (Next.value (← Builtin.len_ _ _ _))).run P w = _
  simp [Builtin.len_, run_underlying hd, goInt]

theorem op_len_map (hE : EnvOk P E) {c : Call} {x : Operand} {T : TypeId} {ts : List TypeId} {n : Nat} {k e : TypeId} (ho : o.op = .call c) (hc : c.callee = .builtin .len) (ha : c.args.toList = [x]) (ht : c.argTypes.toList = T :: ts)
    (hH : HRel g H w) (hL : LvRel N g p H w lv) (hx : TRel g w p (ev x) (ρ x)) (hu : (tyOf P T).u = .map k e)
    (hm : ev x = .nilmap ∧ n = 0 ∨ ∃ id kt es, ev x = .map id ∧ H.get id = .map kt es ∧ es.length = n) : OpOk P N g p H w lv o ev ρ (.int .i64 n) lv H := by
  have hd := ud_map hu
  refine ok_pure (c := .int .i64 n) hH hL ?_ (.int _ _)
  rw [exec_builtin ho hc, arr_of_toList ha, arr_of_toList ht]
  show (do pure (Next.value (← Builtin.len_ _ _ _))).run P w = _
  rcases hm with ⟨h1, rfl⟩ | ⟨id, kt, es, h1, h2, h3⟩
  · have hv : VRel g w .nilmap (ρ x) := by rw [h1] at hx; exact hx
    generalize hρ : ρ x = cx at hv
    cases hv
    simp [Builtin.len_, hρ, run_underlying hd, goInt]
  · have hv : VRel g w (.map id) (ρ x) := by rw [h1] at hx; exact hx
    generalize hρ : ρ x = cx at hv
    cases hv with
    | @map _ b hb =>
      have ob := hH.obj id b hb
      rw [h2] at ob
      obtain ⟨_, ents, clock, hr, hs, _, _, _⟩ := ob
      simp [Builtin.len_, hρ, run_underlying hd, goInt, getObj, Sem.run, hr, ← h3, hs]

theorem run_foldM (F : Value → Value → Sem Value) (f : Int → Int → Int) {k : IntKind} (hF : ∀ a b w, (F (.int k a) (.int k b)).run P w = .ok (.int k (f a b)) w) :
    ∀ (l : List AVal) (l' : List Value) (a : Int), l.length = l'.length → (∀ (i : Nat) x c, l[i]? = some x → l'[i]? = some c → TRel g w p x c) →
    foldInt f k a l = some r → ∃ m, r = .int k m ∧ (l'.foldlM F (.int k a)).run P w = .ok (.int k m) w
  | [], [], a, _, _, h => by simp only [foldInt, Option.some.injEq] at h; exact ⟨a, h.symm, rfl⟩
  | x :: l, c :: l', a, hl, hr, h => by
    unfold foldInt at h
    split at h
    · rename_i he; cases he
    · rename_i k' b rest e1 e2
      injection e2 with e2 e3
      subst e2 e3
      have h0 := hr 0 _ c rfl rfl
      have := trel_int h0
      subst this
      split at h
      · rename_i hk; subst hk
        obtain ⟨m, h1, h2⟩ := run_foldM F f hF _ l' _ (by simpa using hl) (fun i x c hx hc => hr (i + 1) x c hx hc) h
        exact ⟨m, h1, by simp only [List.foldlM_cons, Sem.run_bind, hF, Result.andThen_ok]; exact h2⟩
      · cases h
    · cases h
  | [], _ :: _, _, hl, _, _ => by simp at hl
  | _ :: _, [], _, hl, _, _ => by simp at hl

theorem op_maxmin (hE : EnvOk P E) {c : Call} (f : Int → Int → Int) {k : IntKind} {a : Int} {rest : List AVal} (ho : o.op = .call c)
    (hcase : c.callee = .builtin .max ∧ f = (fun a b => if b > a then b else a) ∨ c.callee = .builtin .min ∧ f = (fun a b => if b < a then b else a))
    (ha : c.args.toList.map ev = .int k a :: rest) (hH : HRel g H w) (hL : LvRel N g p H w lv) (hx : ∀ x ∈ c.args.toList, TRel g w p (ev x) (ρ x)) (h : foldInt f k a rest = some r) :
    OpOk P N g p H w lv o ev ρ r lv H := by
  obtain ⟨x0, xs, hxs⟩ : ∃ x0 xs, c.args.toList = x0 :: xs := by
    cases hq : c.args.toList with
    | nil => rw [hq] at ha; simp at ha
    | cons x0 xs => exact ⟨x0, xs, rfl⟩
  rw [hxs] at ha hx
  simp only [List.map_cons, List.cons.injEq] at ha
  have e0 : ρ x0 = .int k a := trel_int (by rw [← ha.1]; exact hx x0 (by simp))
  have hmap : (c.args.map ρ).toList = .int k a :: xs.map ρ := by simp [hxs, e0]
  have hrel : ∀ (i : Nat) x cv, rest[i]? = some x → (xs.map ρ)[i]? = some cv → TRel g w p x cv := by
    intro i x cv h1 h2
    rw [← ha.2, List.getElem?_map] at h1
    rw [List.getElem?_map] at h2
    cases hq : xs[i]? with
    | none => rw [hq] at h1; cases h1
    | some y =>
      rw [hq] at h1 h2
      injection h1 with h1; injection h2 with h2
      subst h1 h2
      exact hx y (by have := List.mem_of_getElem? hq; simp [this])
  have hlen : rest.length = (xs.map ρ).length := by rw [← ha.2]; simp
  rcases hcase with ⟨hc, rfl⟩ | ⟨hc, rfl⟩
  · obtain ⟨m, h1, h2⟩ := run_foldM (P := P) Builtin.max2 _ (k := k) (fun a b w => by simp [Builtin.max2]) rest _ a hlen hrel h
    subst h1
    refine ok_pure (c := .int k m) hH hL ?_ (.int _ _)
    rw [exec_builtin ho hc]
    show (do pure (Next.value (← Builtin.max_ _ _ _))).run P w = _
    unfold Builtin.max_
    rw [hmap]
    simp [h2]
  · obtain ⟨m, h1, h2⟩ := run_foldM (P := P) Builtin.min2 _ (k := k) (fun a b w => by simp [Builtin.min2]) rest _ a hlen hrel h
    subst h1
    refine ok_pure (c := .int k m) hH hL ?_ (.int _ _)
    rw [exec_builtin ho hc]
    show (do pure (Next.value (← Builtin.min_ _ _ _))).run P w = _
    unfold Builtin.min_
    rw [hmap]
    simp [h2]

/-! ### conversions -/
theorem op_convert_int (hE : EnvOk P E) {s d : TypeId} {x : Operand} {ks kd k : IntKind} {n : Int} (ho : o.op = .convert s d x) (hH : HRel g H w) (hL : LvRel N g p H w lv)
    (hx : TRel g w p (.int k n) (ρ x)) (hs : (tyOf P s).u = .int ks) (hd : (tyOf P d).u = .int kd) : OpOk P N g p H w lv o ev ρ (.int kd (kd.wrap n)) lv H := by
  have h1 := ud_int hs
  have h2 := ud_int hd
  have e := trel_int hx
  refine ok_pure (c := .int kd (kd.wrap n)) hH hL ?_ (.int _ _)
  simp [execOp, ho, convert, run_underlying h1, run_underlying h2, e, Conv.intToInt]

theorem op_convert_str (hE : EnvOk P E) {s d : TypeId} {x : Operand} {v : ByteArray} (ho : o.op = .convert s d x) (hH : HRel g H w) (hL : LvRel N g p H w lv)
    (hx : TRel g w p (.str v) (ρ x)) (hs : (tyOf P s).u = .str) (hd : (tyOf P d).u = .str) : OpOk P N g p H w lv o ev ρ (.str v) lv H := by
  have h1 := ud_str hs
  have h2 := ud_str hd
  have e := trel_str hx
  refine ok_pure (c := .string v) hH hL ?_ (.str _)
  simp [execOp, ho, convert, run_underlying h1, run_underlying h2, e]

end
end Go.Rs
end
/- New variables and aggregates. -/
section
namespace Go.Rs
section
variable {P : Program} {E : Env} {N : Nat} {g : Gh} {p : Nat → Option Nat} {H : Hp} {w : World} {lv : Lv} {o : Oper} {ev : Operand → AVal} {ρ : Operand → Value} {r : AVal}

theorem Gh.limit_self (g : Gh) (b : Nat) : g.limit b (g.lim b) = g := by
  unfold Gh.limit
  congr
  funext c
  by_cases h : c = b
  · simp [h]
  · simp [h]

theorem Step.plain (hH : HRel g H w) (O : Obj) : Step N g H w g H (w.alloc O) := by
  have := Step.newRow (N := N) hH O (g.lim w.heap.size)
  rwa [Gh.limit_self] at this

theorem lim_new (hH : HRel g H w) : g.lim w.heap.size = 0 := by
  rcases Nat.eq_zero_or_pos (g.lim w.heap.size) with h | h
  · exact h
  · have := hH.limlt w.heap.size (by omega); omega

theorem row_new (T : TypeId) (cs : Array Value) : rowIs (w.alloc (.cells cs T)) w.heap.size cs := ⟨T, heap_alloc_new' w _⟩

/-- a new variable of the frame's own -/
theorem ok_local {T : TypeId} {cs : List AVal} {cs' : Array Value} (hH : HRel g H w) (hL : LvRel N g p H w lv) (hN : N ≤ w.heap.size) (hdm : lv.next < maxTmp)
    (hc : CRel g w cs cs'.toList) (hone : ∀ a ∈ cs, a.oneCell = true) (hrun : (execOp ρ o).run P w = .ok (.value (.pointer (some ⟨w.heap.size, 0, none⟩))) (w.alloc (.cells cs' T))) :
    OpOk P N g p H w lv o ev ρ (.lptr lv.next 0) (lv.push cs) H := by
  have hst := Step.plain (N := w.heap.size) hH (.cells cs' T)
  have hL' := hL.step hst
  refine ⟨_, _, _, g, fun t => if t = lv.next then some w.heap.size else p t, hrun, .inl rfl, hst.weaken hN, ?_, ⟨_, by simp, rfl⟩, ?_, ?_, by simp⟩
  · refine ⟨fun t b hb => ?_, fun t u b ht hu => ?_, fun t b hb => ?_, fun t b hb => ?_, fun t b hb => ?_⟩
    · rw [Lv.get_push _ _ _ hdm]
      split at hb
      · rename_i htd
        injection hb with hb
        subst hb htd
        rw [if_pos rfl]
        have hlen := hc.len
        refine ⟨cs, cs', rfl, lim_new hH, hone, row_new T cs', by simpa using Nat.le_of_eq hlen, fun i a c ha hc' => ?_⟩
        exact (hc.rel i a c ha (by simpa using hc')).mono hst.ext
      · rename_i htd
        rw [if_neg (Ne.symm htd)]
        exact hL'.one t b hb
    · split at ht <;> split at hu
      · rename_i a c; rw [a, c]
      · injection ht with ht; have := (hL.lt u b hu).2; omega
      · injection hu with hu; have := (hL.lt t b ht).2; omega
      · exact hL.inj t u b ht hu
    · split at hb
      · injection hb with hb
        rintro ⟨id, hid, _⟩
        have := (hH.lt id b hid).2.2; omega
      · exact hL'.priv t b hb
    · split at hb
      · injection hb with hb; rw [size_alloc']; omega
      · exact hL'.lt t b hb
    · split at hb
      · rename_i htd; rw [htd]; simp; exact hdm
      · have := hL.nx t b hb; simp; omega
  · intro t ht
    show (if t = lv.next then _ else _) = _
    rw [if_neg (by omega)]
  · intro t ht _
    rw [Lv.get_push _ _ _ hdm, if_neg (by omega)]

/-- a new object -/
theorem ok_obj {obj : AObj} {O : Obj} {c : Value} (n e : Nat) (hH : HRel g H w) (hL : LvRel N g p H w lv) (hN : N ≤ w.heap.size) (hm : H.next < maxTmp)
    (hO : Ext g w (g.upd H.next w.heap.size n e) (w.alloc O) → ORel (g.upd H.next w.heap.size n e) (w.alloc O) H.next w.heap.size obj)
    (hrun : (execOp ρ o).run P w = .ok (.value c) (w.alloc O)) (hr : VRel (g.upd H.next w.heap.size n e) (w.alloc O) r c) :
    OpOk P N g p H w lv o ev ρ r lv (H.alloc obj).2 := by
  have hst := Step.newObj (N := w.heap.size) hH obj O n e hm (hO (Ext.push hH O n e))
  exact ⟨_, c, _, _, p, hrun, .inl rfl, hst.weaken hN, hL.step hst, .of hr, fun _ _ => rfl, fun _ _ _ => rfl, Nat.le_refl _⟩

theorem mu_new (n e : Nat) : (g.upd H.next w.heap.size n e).mu H.next = some w.heap.size := by simp [Gh.upd]
theorem lim_upd (n e : Nat) : (g.upd H.next w.heap.size n e).lim w.heap.size = n := by simp [Gh.upd]

/-- the cells of a new variable -/
theorem orel_cells {T : TypeId} {cs : List AVal} {cs' : Array Value} {id : Nat} (hc : CRel g w cs cs'.toList) (hone : ∀ a ∈ cs, a.oneCell = true) {e : Nat}
    (ext : Ext g w (g.upd H.next w.heap.size 0 e) (w.alloc (.cells cs' T))) :
    ORel (g.upd H.next w.heap.size 0 e) (w.alloc (.cells cs' T)) id w.heap.size (.cells cs) := by
  have hlen := hc.len
  exact ⟨lim_upd 0 e, hone, cs', row_new T cs', by simpa using Nat.le_of_eq hlen, fun i a c ha hc' => (hc.rel i a c ha (by simpa using hc')).mono ext⟩

theorem run_newVar {T : TypeId} {v : Value} : (newVar T v).run P w = .ok ⟨w.heap.size, 0, none⟩ (w.alloc (.cells v.cells T)) := rfl

theorem op_alloc_local (hE : EnvOk P E) {T : TypeId} (ho : o.op = .alloc T) (hH : HRel g H w) (hL : LvRel N g p H w lv) (hN : N ≤ w.heap.size) (hdm : lv.next < maxTmp)
    (hz : (tyOf P T).zok = true) : OpOk P N g p H w lv o ev ρ (.lptr lv.next 0) (lv.push (tyOf P T).zero) H := by
  obtain ⟨z, h1, h2, h3, h4, h5, h6, h7⟩ := run_zero (P := P) hz g w
  refine ok_local (T := T) hH hL hN hdm h2 h5 ?_
  simp [execOp, ho, Instr.alloc, h1, run_newVar]

theorem op_alloc_heap (hE : EnvOk P E) {T : TypeId} (ho : o.op = .alloc T) (hH : HRel g H w) (hL : LvRel N g p H w lv) (hN : N ≤ w.heap.size) (hm : H.next < maxTmp)
    (hz : (tyOf P T).zok = true) : OpOk P N g p H w lv o ev ρ (.ptr H.next 0) lv (H.alloc (.cells (tyOf P T).zero)).2 := by
  obtain ⟨z, h1, h2, h3, h4, h5, h6, h7⟩ := run_zero (P := P) hz g w
  refine ok_obj (O := .cells z.cells T) (c := .pointer (some ⟨w.heap.size, 0, none⟩)) 0 0 hH hL hN hm (fun ext => orel_cells h2 h5 ext) ?_ (.ptr _ (mu_new 0 0))
  simp [execOp, ho, Instr.alloc, h1, run_newVar]

theorem op_box_local (hE : EnvOk P E) {T : TypeId} {x : Operand} (ho : o.op = .box T x) (hH : HRel g H w) (hL : LvRel N g p H w lv) (hN : N ≤ w.heap.size) (hdm : lv.next < maxTmp)
    (hx : TRel g w p (ev x) (ρ x)) (hone : (ev x).cells.all (·.oneCell) = true) : OpOk P N g p H w lv o ev ρ (.lptr lv.next 0) (lv.push (ev x).cells) H := by
  have hv := hx.val (by intro t off e; rw [e] at hone; simp [AVal.cells, AVal.oneCell] at hone)
  obtain ⟨h1, h2⟩ := cells_rel hv hone
  refine ok_local (T := T) hH hL hN hdm h1 (fun a ha => by simpa using List.all_eq_true.1 hone a ha) ?_
  simp [execOp, ho, Instr.box, run_newVar]

theorem op_box_heap (hE : EnvOk P E) {T : TypeId} {x : Operand} (ho : o.op = .box T x) (hH : HRel g H w) (hL : LvRel N g p H w lv) (hN : N ≤ w.heap.size) (hm : H.next < maxTmp)
    (hx : TRel g w p (ev x) (ρ x)) (hone : (ev x).cells.all (·.oneCell) = true) : OpOk P N g p H w lv o ev ρ (.ptr H.next 0) lv (H.alloc (.cells (ev x).cells)).2 := by
  have hv := hx.val (by intro t off e; rw [e] at hone; simp [AVal.cells, AVal.oneCell] at hone)
  obtain ⟨h1, h2⟩ := cells_rel hv hone
  refine ok_obj (O := .cells (ρ x).cells T) (c := .pointer (some ⟨w.heap.size, 0, none⟩)) 0 0 hH hL hN hm (fun ext => orel_cells h1 (fun a ha => by simpa using List.all_eq_true.1 hone a ha) ext) ?_ (.ptr _ (mu_new 0 0))
  simp [execOp, ho, Instr.box, run_newVar]

theorem op_makeMap (hE : EnvOk P E) {T kt e : TypeId} (ho : o.op = .makeMap T none) (hu : (tyOf P T).u = .map kt e) (hH : HRel g H w) (hL : LvRel N g p H w lv) (hN : N ≤ w.heap.size) (hm : H.next < maxTmp) :
    OpOk P N g p H w lv o ev ρ (.map H.next) lv (H.alloc (.map kt [])).2 := by
  refine ok_obj (O := .map #[] 0) (c := .map (some w.heap.size)) 0 0 hH hL hN hm (fun ext => ⟨lim_upd 0 0, #[], 0, heap_alloc_new' w _, rfl, by simp, .empty _, by simp⟩) ?_ (.map (mu_new 0 0))
  simp [execOp, ho, Instr.makeMap]

end
end Go.Rs
end
