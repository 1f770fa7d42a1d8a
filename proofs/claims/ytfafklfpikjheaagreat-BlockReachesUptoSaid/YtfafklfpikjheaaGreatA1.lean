import Derived.WalkKit
set_option linter.unusedVariables false
set_option linter.unusedSimpArgs false
/- The abstract machine: an executable reading of the program's code on typed data and a small heap of the call's own objects. Definitions alone. -/
namespace Go.Am

inductive Ty where
  | bool | int (k : IntKind) | str | sl (e : Ty) | pair (a b : Ty) | unit | ref (a : Ty) | fn (f : FuncId)
  deriving DecidableEq

def Ty.den : Ty → Type
  | .bool => Bool
  | .int _ => Int
  | .str => List UInt8
  | .sl e => List e.den
  | .pair a b => a.den × b.den
  | .unit => Unit
  | .ref a => a.den
  | .fn _ => Unit

def Ty.size : Ty → Nat
  | .pair a b => a.size + b.size
  | .unit => 0
  | _ => 1

def Ty.isAgg : Ty → Bool
  | .pair _ _ | .unit => true
  | _ => false

def Ty.zero : (τ : Ty) → τ.den
  | .bool => false
  | .int _ => (0 : Int)
  | .str => ([] : List UInt8)
  | .sl _ => []
  | .pair a b => (a.zero, b.zero)
  | .unit => ()
  | .ref a => a.zero
  | .fn _ => ()

/-- a row of types as one: what a call takes, what it hands back -/
def tup : List Ty → Ty
  | [] => .unit
  | [a] => a
  | a :: b :: r => .pair a (tup (b :: r))

/-- a struct's fields as one type -/
def stTy : List Ty → Ty
  | [] => .unit
  | [a] => .pair a .unit
  | a :: b :: r => .pair a (tup (b :: r))

/-- of a slice: nothing more; it is not nil; it is nil; it is ours, by its token -/
inductive Tok where
  | no | nn | nl | own (o : Nat)

/-- what one cell holds -/
inductive C where
  | undef
  | bool (b : Bool)
  | int (k : IntKind) (n : Int)
  | str (s : List UInt8)
  | sl (e : Ty) (l : List e.den) (t : Tok)
  | nils
  | vec (o : Nat)
  | ptr (o off : Nat)
  | rptr (o i c : Nat)
  | aptr (o off len i : Nat)
  | eptr (a : Ty) (x : a.den) (c : Nat)
  | clos (f : FuncId) (caps : List Nat)
  | nilfn
  | nilp

/-- a value: one cell, or a struct or an array, or several results -/
inductive A where
  | v (agg : Bool) (cs : List C)
  | tup (ps : List (Bool × List C))

def undefA : A := .v false [.undef]
/-- what stands in the slot of an operation that was passed over -/
def skipA : A := .tup []

inductive Ob where
  | dead
  | tok
  | cells (cs : List C)
  | row (e : Ty) (l : List e.den)
  | frow (e : Ty) (l : List e.den)

def Ty.cells : (τ : Ty) → τ.den → List C
  | .bool, b => [.bool b]
  | .int k, n => [.int k n]
  | .str, s => [.str s]
  | .sl e, l => [.sl e l .no]
  | .pair a b, x => a.cells x.1 ++ b.cells x.2
  | .unit, _ => []
  | .ref a, x => [.eptr a x 0]
  | .fn f, _ => [.clos f []]

/-- the zero value's cells; a nil slice may be appended to -/
def Ty.zcells : Ty → List C
  | .bool => [.bool false]
  | .int k => [.int k 0]
  | .str => [.str []]
  | .sl _ => [.nils]
  | .pair a b => a.zcells ++ b.zcells
  | .unit => []
  | .ref _ => [.nilp]
  | .fn _ => [.nilfn]

def castSl (a b : Ty) (l : List a.den) : Option (List b.den) :=
  match decEq a b with
  | .isTrue h => some (h ▸ l)
  | .isFalse _ => none

def castDen (a b : Ty) (x : a.den) : Option b.den :=
  match decEq a b with
  | .isTrue h => some (h ▸ x)
  | .isFalse _ => none

/-- read a typed datum off the head of a row of cells -/
def Ty.take : (τ : Ty) → List C → Option (τ.den × List C)
  | .bool, .bool b :: r => some (b, r)
  | .int k, .int k' n :: r => match decEq k k' with | .isTrue _ => some (n, r) | .isFalse _ => none
  | .str, .str s :: r => some (s, r)
  | .sl e, .sl e' l _ :: r => match castSl e' e l with | some l => some (l, r) | none => none
  | .sl _, .nils :: r => some ([], r)
  | .pair a b, cs => match a.take cs with
    | some (x, r) => match b.take r with
      | some (y, r') => some ((x, y), r')
      | none => none
    | none => none
  | .unit, cs => some ((), cs)
  | .ref a, .eptr a' x 0 :: r => match castDen a' a x with | some x => some (x, r) | none => none
  | .fn f, .clos g [] :: r => match decEq f g with | .isTrue _ => some ((), r) | .isFalse _ => none
  | _, _ => none

/-- .. all of it -/
def Ty.takeAll (τ : Ty) (cs : List C) : Option τ.den :=
  match τ.take cs with
  | some (x, []) => some x
  | _ => none

/-! ### partial operations, by name -/

def brk {R : Type} (b : Bool) (x y : Option R) : Option R := match b with | true => x | false => y
def idx {α : Type} (l : List α) (i : Int) : Option α := if 0 ≤ i then l[i.toNat]? else none
def ck (i : Int) (n : Nat) : Option Nat := if 0 ≤ i ∧ i < n then some i.toNat else none
def qt (k : IntKind) (a b : Int) : Option Int := if b = 0 then none else some (k.wrap (a.tdiv b))
def rm (a b : Int) : Option Int := if b = 0 then none else some (a.tmod b)
def shlo (k : IntKind) (a b : Int) : Option Int := if b < 0 then none else some (k.wrap (a * 2 ^ (min b.toNat k.bits)))
def shro (k : IntKind) (a b : Int) : Option Int := if b < 0 then none else some (a.fdiv (2 ^ (min b.toNat k.bits)))
def bito (op : BinOp) (k : IntKind) (x y : Int) : Int :=
  let a := BitVec.ofInt k.bits x
  let b := BitVec.ofInt k.bits y
  k.wrap (match op with | .and => (a &&& b).toNat | .or => (a ||| b).toNat | .xor => (a ^^^ b).toNat | _ => (a &&& ~~~b).toNat)
def room : Nat := 140737488355328
def mkn (bytes : Nat) (n : Int) : Option Nat := if 0 ≤ n ∧ n.toNat * bytes ≤ room ∧ n ≤ 140737488355328 then some n.toNat else none
def app {α : Type} (bytes : Nat) (l m : List α) : Option (List α) := if (l.length + m.length) * bytes ≤ room ∧ l.length + m.length ≤ room then some (l ++ m) else none
def slc {α : Type} (l : List α) (lo hi : Int) : Option (List α) := if 0 ≤ lo ∧ lo ≤ hi ∧ hi ≤ l.length then some ((l.take hi.toNat).drop lo.toNat) else none
def cat (s t : List UInt8) : Option (List UInt8) := if s.length + t.length ≤ 2 ^ 62 then some (s ++ t) else none
def idxS (s : List UInt8) (i : Int) : Option Int := if 0 ≤ i then (s[i.toNat]?).map (fun b => (b.toNat : Int)) else none
def bytesOf (l : List Int) : List UInt8 := l.map fun n => UInt8.ofNat n.toNat
def imax (x y : Int) : Int := if y > x then y else x
def imin (x y : Int) : Int := if y < x then y else x

/-! ### operations as small programs over the heap -/

inductive HM : Type 1 where
  | ret (a : A)
  | fail
  | get (o : Nat) (k : Ob → HM)
  | set (o : Nat) (x : Ob) (k : HM)
  | opt {β : Type} (x : Option β) (k : β → HM)
  | br (b : Bool) (x y : HM)

abbrev Log := List (Nat × Bool)
abbrev Heap := List (Nat × Ob)
abbrev Env := List (Nat × A)

def look {α : Type} (d : α) (t : Nat) : List (Nat × α) → α
  | [] => d
  | (u, x) :: r => match Nat.beq u t with | true => x | false => look d t r

def HM.run {R : Type} (next : Nat) : HM → Heap → Log → (A → Heap → Log → Option R) → Option R
  | .ret a, h, L, K => K a h L
  | .fail, _, _, _ => none
  | .get o k, h, L, K => (k (look .dead o h)).run next h ((o, false) :: L) K
  | .set o x k, h, L, K => match Nat.blt o next with
    | true => k.run next ((o, x) :: h) ((o, true) :: L) K
    | false => none
  | .opt x k, h, L, K => x.bind fun b => (k b).run next h L K
  | .br b x y, h, L, K => brk b (x.run next h L K) (y.run next h L K)

/-! ### types -/

/-- what is looked at of a type's description; a struct's fields by type and place -/
inductive TK where
  | bool | int (k : IntKind) | str | slice (e : TypeId) | struct (fs : List (TypeId × Nat)) | array (n : Nat) (e : TypeId) | other

def descK : TypeDesc → TK
  | .bool => .bool
  | .int k => .int k
  | .string => .str
  | .slice e => .slice e
  | .struct fs => .struct (fs.toList.map fun f => (f.type, f.offset))
  | .array n e => .array n e
  | _ => .other

def aggK : TK → Bool
  | .struct _ | .array _ _ => true
  | _ => false

structure TD where
  desc : TK
  size : Nat
  bytes : Nat
  agg : Bool
  ty : Option Ty
  zero : Bool     -- the zero value is that of 'ty'
  eq : List Ty    -- of a struct of plain fields: the fields' types: == compares them one by one

structure Entry where
  ps : List Ty
  rs : List Ty
  F : (tup ps).den → Option (tup rs).den

/-- a function whose one result is a slice of its own, that may be appended to -/
structure OEntry where
  ps : List Ty
  e : Ty
  F : (tup ps).den → Option (List e.den)

/-- what a cell holds where a state is taken down: data; a slice with its token; a fixed word -/
inductive CK where
  | data (τ : Ty) | own (e : Ty) | fix (c : C)

/-- .. and a slot: as a cell; or a pointer to a variable of its own, that is handed on with it; or a pointer to what is handed in -/
inductive SK where
  | data (τ : Ty) | own (e : Ty) | fix (a : A) | box (l : List CK) | ref (a : Ty)

/-- .. an object -/
inductive OK where
  | row (e : Ty) | frow (e : Ty) | cells (l : List CK)

/-- a state taken down: which slots, which objects; ids below 'next' are kept -/
structure NS where
  slots : List (Nat × SK)
  obs : List (Nat × OK)
  next : Nat

inductive Ex where
  | normal | ret | exit (id : Nat)

/-- a loop: its state at the head, and at each of its ends -/
structure LS where
  vin : NS
  outs : List (Ex × NS)

structure Cx where
  tt : List (TypeId × TD)
  calls : List (FuncId × Entry)
  owns : List (FuncId × OEntry)
  loops : List (Nat × LS)
  joins : List (Nat × NS)
  nt : Nat
  fuel : Nat

def lookO {α : Type} (t : Nat) : List (Nat × α) → Option α
  | [] => none
  | (u, x) :: r => match Nat.beq u t with | true => some x | false => lookO t r

/-! ### freezing: own rows handed on as data -/

def freezeC (mark : Bool) (c : C) (k : C → HM) : HM :=
  match c with
  | .vec o => .get o fun
    | .row e l => match mark with
      | true => .set o (.frow e l) (k (.sl e l .no))
      | false => k (.sl e l .no)
    | .frow e l => k (.sl e l .no)
    | _ => .fail
  | .sl e l _ => k (.sl e l .no)
  | c => k c

def freezeCs (mark : Bool) : List C → (List C → HM) → HM
  | [], k => k []
  | c :: r, k => freezeC mark c fun c' => freezeCs mark r fun r' => k (c' :: r')

def Ty.flat : Ty → Bool     -- no memory behind it
  | .bool | .int _ | .str | .unit | .fn _ => true
  | .pair a b => a.flat && b.flat
  | _ => false

def Ty.noRef : Ty → Bool
  | .ref _ => false
  | .pair a b => a.noRef && b.noRef
  | .sl e => e.noRef
  | _ => true

def A.cellsOf : A → Option (List C)
  | .v _ cs => some cs
  | .tup _ => none

/-- an argument as typed data -/
def argM (mark : Bool) (τ : Ty) (a : A) (k : τ.den → HM) : HM :=
  match τ, a with
  | .ref σ, .v false [.ptr o off] => match σ.noRef with
    | true => .get o fun
      | .cells cs => freezeCs mark ((cs.drop off).take σ.size) fun cs => match σ.takeAll cs with
        | some x => k x
        | none => .fail
      | _ => .fail
    | false => .fail
  | .ref σ, .v false [.eptr a' x c] => match σ.noRef with
    | true => match σ.takeAll (((a'.cells x).drop c).take σ.size) with
      | some x => k x
      | none => .fail
    | false => .fail
  | τ, .v g cs => match g == τ.isAgg && τ.noRef with
    | true => freezeCs mark cs fun cs => match τ.takeAll cs with
      | some x => k x
      | none => .fail
    | false => .fail
  | _, .tup _ => .fail

def argsM (mark : Bool) : (ps : List Ty) → List A → ((tup ps).den → HM) → HM
  | [], [], k => k ()
  | [τ], [a], k => argM mark τ a k
  | τ :: σ :: r, a :: as, k => argM mark τ a fun x => argsM mark (σ :: r) as fun y => k (x, y)
  | _, _, _ => .fail

def encA (τ : Ty) (x : τ.den) : A := .v τ.isAgg (τ.cells x)

def encArgs : (ps : List Ty) → (tup ps).den → List A
  | [], _ => []
  | [τ], x => [encA τ x]
  | τ :: σ :: r, x => encA τ x.1 :: encArgs (σ :: r) x.2

def encP (τ : Ty) (x : τ.den) : Bool × List C := (τ.isAgg, τ.cells x)

def encPs : (ps : List Ty) → (tup ps).den → List (Bool × List C)
  | [], _ => []
  | [τ], x => [encP τ x]
  | τ :: σ :: r, x => encP τ x.1 :: encPs (σ :: r) x.2

/-- what a call hands back -/
def encRes (rs : List Ty) (x : (tup rs).den) : A :=
  match rs, x with
  | [τ], x => encA τ x
  | rs, x => .tup (encPs rs x)

def capsA (ids : List Nat) : List A := ids.map fun o => .v false [.ptr o 0]

def callF (X : Cx) (new : Nat) (f : FuncId) (as : List A) : HM :=
  match lookO f X.owns with
  | some E => argsM true E.ps as fun x => .opt (E.F x) fun l => .set new .tok (.ret (.v false [.sl E.e l (.own new)]))
  | none => match lookO f X.calls with
    | some E => argsM (!(E.rs.all Ty.flat)) E.ps as fun x => .opt (E.F x) fun r => .ret (encRes E.rs r)
    | none => .fail

/-! ### values of constants; operands -/

def ofVal : Value → A
  | .bool b => .v false [.bool b]
  | .int k n => .v false [.int k n]
  | .string s => .v false [.str s.data.toList]
  | .slice none 0 0 => .v false [.nils]
  | .nilFunc => .v false [.nilfn]
  | .pointer none => .v false [.nilp]
  | _ => undefA

def rho (env : Env) : Operand → A
  | .tmp t => look undefA t env
  | .const v => ofVal v
  | .global _ => undefA
  | .func f => .v false [.clos f []]

def retI (k : IntKind) (n : Int) : HM := .ret (.v false [.int k n])
def retB (b : Bool) : HM := .ret (.v false [.bool b])
def retC (c : C) : HM := .ret (.v false [c])

def bytesLt : List UInt8 → List UInt8 → Bool := Op.bytesLess

def binA (op : BinOp) (x y : A) : HM :=
  match x, y with
  | .v false [.int k a], .v false [.int k' b] =>
    match op with
    | .shl => .opt (shlo k a b) (retI k)
    | .shr => .opt (shro k a b) (retI k)
    | op => match decEq k k' with
      | .isFalse _ => .fail
      | .isTrue _ => match op with
        | .add => retI k (k.wrap (a + b))
        | .sub => retI k (k.wrap (a - b))
        | .mul => retI k (k.wrap (a * b))
        | .quo => .opt (qt k a b) (retI k)
        | .rem => .opt (rm a b) (retI k)
        | .eql => retB (a == b)
        | .neq => retB (a != b)
        | .lss => retB (decide (a < b))
        | .leq => retB (decide (a ≤ b))
        | .gtr => retB (decide (a > b))
        | .geq => retB (decide (a ≥ b))
        | op => retI k (bito op k a b)
  | .v false [.str a], .v false [.str b] =>
    match op with
    | .add => .opt (cat a b) fun s => retC (.str s)
    | .eql => retB (a == b)
    | .neq => retB (!(a == b))
    | .lss => retB (bytesLt a b)
    | .leq => retB (bytesLt a b || a == b)
    | .gtr => retB (!(bytesLt a b || a == b))
    | .geq => retB (!(bytesLt a b))
    | _ => .fail
  | .v false [.bool a], .v false [.bool b] =>
    match op with
    | .eql => retB (a == b)
    | .neq => retB (!(a == b))
    | _ => .fail
  | _, _ => .fail

def unA (op : UnOp) (x : A) : HM :=
  match op, x with
  | .neg, .v false [.int k a] => retI k (k.wrap (0 - a))
  | .xor, .v false [.int k a] => retI k (bito .xor k (if k.signed then -1 else k.max) a)
  | .not, .v false [.bool b] => retB (!b)
  | _, _ => .fail

/-- the cells of two structs, one by one -/
def eqC (τ : Ty) : C → C → Option Bool
  | .int k a, .int k' b => match τ with
    | .int q => match decEq k q, decEq k' q with
      | .isTrue _, .isTrue _ => some (a == b)
      | _, _ => none
    | _ => none
  | .bool a, .bool b => match τ with
    | .bool => some (a == b)
    | _ => none
  | .str a, .str b => match τ with
    | .str => some (a == b)
    | _ => none
  | _, _ => none
def eqCs : List Ty → List C → List C → Option Bool
  | [], [], [] => some true
  | τ :: τs, c :: cs, d :: ds => match eqC τ c d, eqCs τs cs ds with
    | some a, some b => some (a && b)
    | _, _ => none
  | _, _, _ => none
def eqA (op : BinOp) (d : TD) (cs : List C) (y : A) : HM :=
  match d.eq, y with
  | τ :: τs, .v true ds => match eqCs (τ :: τs) cs ds with
    | some b => match op with
      | .eql => retB b
      | .neq => retB (!b)
      | _ => .fail
    | none => .fail
  | _, _ => .fail
/-- is the slice nil? -/
def nilA (op : BinOp) (d : TD) (t : Tok) (y : A) : HM :=
  match d.desc, y with
  | .slice _, .v false [.nils] => match t, op with
    | .nn, .eql => retB false
    | .nn, .neq => retB true
    | .nl, .eql => retB true
    | .nl, .neq => retB false
    | _, _ => .fail
  | _, _ => .fail

def C.known : C → Bool
  | .undef => false
  | _ => true

def putCells (cs : List C) (off : Nat) (new : List C) : List C := cs.take off ++ new ++ cs.drop (off + new.length)

/-- the fields of a struct, laid over its zero value -/
def fillC (place : Nat → Option (Nat × Nat)) : List C → List (Nat × A) → Option (List C)
  | cs, [] => some cs
  | cs, (i, .v _ new) :: r => match place i with
    | some (off, size) => match Nat.beq new.length size && Nat.ble (off + size) cs.length && new.all C.known with
      | true => fillC place (putCells cs off new) r
      | false => none
    | none => none
  | _, (_, .tup _) :: _ => none

def mapO {α β : Type} (f : α → Option β) : List α → Option (List β)
  | [] => some []
  | a :: r => match f a with
    | some b => match mapO f r with
      | some bs => some (b :: bs)
      | none => none
    | none => none

/-- the parts of a literal of a slice, all there and in their order -/
def partsM (τ : Ty) : Nat → List (Nat × A) → (List τ.den → HM) → HM
  | _, [], k => k []
  | n, (i, .v g cs) :: r, k => match Nat.beq i n && (g == τ.isAgg) && cs.all C.known with
    | true => freezeCs true cs fun cs => match τ.takeAll cs with
      | some x => partsM τ (n + 1) r fun l => k (x :: l)
      | none => .fail
    | false => .fail
  | _, (_, .tup _) :: _, _ => .fail

def sub (off size : Nat) (cs : List C) : Option (List C) :=
  match Nat.ble (off + size) cs.length with
  | true => some ((cs.drop off).take size)
  | false => none

def partOf (agg : Bool) (size off : Nat) (cs : List C) (k : A → HM) : HM :=
  match sub off size cs with
  | some cs => match agg, cs with
    | true, cs => k (.v true cs)
    | false, [c] => k (.v false [c])
    | _, _ => .fail
  | none => .fail

def intsOf (k : IntKind) : List C → Option (List Int)
  | [] => some []
  | .int k' n :: r => match decEq k k' with
    | .isTrue _ => match intsOf k r with
      | some l => some (n :: l)
      | none => none
    | .isFalse _ => none
  | _ => none

def loadM (d : TD) (a : A) : HM :=
  match a with
  | .v false [.ptr o off] => .get o fun
    | .cells cs => partOf d.agg d.size off cs .ret
    | _ => .fail
  | .v false [.eptr τ x c] => partOf d.agg d.size c (τ.cells x) .ret
  | .v false [.rptr o i c] => .get o fun
    | .row e l => .opt (l[i]?) fun x => partOf d.agg d.size c (e.cells x) .ret
    | .frow e l => .opt (l[i]?) fun x => partOf d.agg d.size c (e.cells x) .ret
    | _ => .fail
  | .v false [.aptr o off len i] => match d.desc with
    | .int k => .get o fun
      | .cells cs => match sub off len cs with
        | some cs => match intsOf k cs with
          | some l => .opt (l[i]?) (retI k)
          | none => .fail
        | none => .fail
      | _ => .fail
    | _ => .fail
  | _ => .fail

def storeM (d : TD) (a x : A) : HM :=
  match a, x with
  | .v false [.ptr o off], .v g cs => match Nat.beq cs.length d.size && cs.all C.known && (g == d.agg) with
    | true => .get o fun
      | .cells old => match Nat.ble (off + cs.length) old.length with
        | true => .set o (.cells (putCells old off cs)) (.ret skipA)
        | false => .fail
      | _ => .fail
    | false => .fail
  | .v false [.rptr o i c], .v g cs => match Nat.beq cs.length d.size && cs.all C.known && (g == d.agg) with
    | true => freezeCs true cs fun cs => .get o fun
      | .row e l => .opt (l[i]?) fun x => match Nat.ble (c + cs.length) e.size with
        | true => match e.takeAll (putCells (e.cells x) c cs) with
          | some y => .set o (.row e (l.set i y)) (.ret skipA)
          | none => .fail
        | false => .fail
      | _ => .fail
    | false => .fail
  | _, _ => .fail

def sameOp : Operand → Operand → Bool
  | .tmp a, .tmp b => Nat.beq a b
  | _, _ => false

def lenM (x : A) : HM :=
  match x with
  | .v false [.sl _ l _] => retI .i64 l.length
  | .v false [.nils] => retI .i64 0
  | .v false [.vec o] => .get o fun
    | .row _ l => retI .i64 l.length
    | .frow _ l => retI .i64 l.length
    | _ => .fail
  | _ => .fail

/-- the source of an append, or of a slicing -/
def srcM (mark : Bool) (e : Ty) (x : A) (k : List e.den → HM) : HM :=
  match x with
  | .v false [c] => freezeC mark c fun
    | .sl e' m _ => match castSl e' e m with
      | some m => k m
      | none => .fail
    | .nils => k []
    | _ => .fail
  | _ => .fail

def appendM (new : Nat) (e : Ty) (bytes : Nat) (s x : A) : HM :=
  srcM false e x fun m =>
    match s with
    | .v false [.nils] => .opt (app bytes [] m) fun l => .set new .tok (retC (.sl e l (.own new)))
    | .v false [.sl e' l (.own o)] => match castSl e' e l with
      | some l => .get o fun
        | .tok => .opt (app bytes l m) fun l => .set o .dead (.set new .tok (retC (.sl e l (.own new))))
        | _ => .fail
      | none => .fail
    | .v false [.vec o] => .get o fun
      | .row e' l => match castSl e' e l with
        | some l => .opt (app bytes l m) fun l => .set o .dead (.set new .tok (retC (.sl e l (.own new))))
        | none => .fail
      | _ => .fail
    | _ => .fail

def foldInts (f : Int → Int → Int) (k : IntKind) : Int → List A → HM
  | n, [] => retI k n
  | n, .v false [.int k' m] :: r => match decEq k k' with
    | .isTrue _ => foldInts f k (f n m) r
    | .isFalse _ => .fail
  | _, _ => .fail

def builtinM (X : Cx) (new : Nat) (b : Builtin) (ts : List TypeId) (as : List A) : HM :=
  match b, ts, as with
  | .len, [t], [x] => match lookO t X.tt with
    | some d => match d.desc, x with
      | .slice _, x => lenM x
      | .str, .v false [.str s] => retI .i64 s.length
      | .array n _, _ => retI .i64 n
      | _, _ => .fail
    | none => .fail
  | .append, [t, u], [s, x] => match lookO t X.tt, lookO u X.tt with
    | some d, some du => match d.desc, du.desc with
      | .slice e, .slice _ => match lookO e X.tt with
        | some de => match de.ty with
          | some τ => match Nat.blt 0 de.size && de.zero with
            | true => appendM new τ de.bytes s x
            | false => .fail
          | none => .fail
        | none => .fail
      | _, _ => .fail
    | _, _ => .fail
  | .max, _, .v false [.int k n] :: r => foldInts imax k n r
  | .min, _, .v false [.int k n] :: r => foldInts imin k n r
  | _, _, _ => .fail

/-! ### -/

def bnd (x : Option A) (d : Int) : Option Int :=
  match x with
  | none => some d
  | some (.v false [.int _ n]) => some n
  | _ => none

/-- a type's size, not 0 -/
def sizeIs (X : Cx) (t : TypeId) (n : Nat) : Bool :=
  match lookO t X.tt with
  | some d => Nat.beq n d.size && Nat.blt 0 n
  | none => false

def sliceM (X : Cx) (d : TD) (x : A) (lo hi mx : Option A) : HM :=
  match d.desc, mx with
  | .str, none => match x with
    | .v false [.str s] => match bnd lo 0, bnd hi s.length with
      | some a, some b => .opt (slc s a b) fun s => retC (.str s)
      | _, _ => .fail
    | _ => .fail
  | .slice te, none => match x with
    | .v false [c] => freezeC true c fun
      | .sl e l _ => match sizeIs X te e.size with
        | true => match bnd lo 0, bnd hi l.length with
          | some a, some b => .opt (slc l a b) fun l => retC (.sl e l .no)
          | _, _ => .fail
        | false => .fail
      | _ => .fail
    | _ => .fail
  | .slice te, some m => match x with
    | .v false [c] => freezeC true c fun
      | .sl e l _ => match sizeIs X te e.size with
        | true => match bnd lo 0, (match hi with | some b => bnd (some b) 0 | none => none), bnd (some m) 0 with
          | some a, some b, some m => .opt (slc l b m) fun _ => .opt (slc l a b) fun l => retC (.sl e l .no)
          | _, _, _ => .fail
        | false => .fail
      | _ => .fail
    | _ => .fail
  | _, _ => .fail

def fieldOff (d : TD) (j : Nat) : Option (TypeId × Nat) :=
  match d.desc with
  | .struct fs => fs[j]?
  | _ => none

def ptrAdd (a : A) (n : Nat) : HM :=
  match a with
  | .v false [.ptr o off] => .get o fun
    | .dead => .fail
    | _ => retC (.ptr o (off + n))
  | .v false [.eptr τ x c] => retC (.eptr τ x (c + n))
  | .v false [.rptr o i c] => .get o fun
    | .row _ _ => retC (.rptr o i (c + n))
    | .frow _ _ => retC (.rptr o i (c + n))
    | _ => .fail
  | _ => .fail

def indexAddrM (X : Cx) (d : TD) (x ix : A) : HM :=
  match ix with
  | .v false [.int _ i] =>
    match d.desc, x with
    | .slice te, .v false [.sl e l _] => match sizeIs X te e.size with
      | true => .opt (idx l i) fun y => retC (.eptr e y 0)
      | false => .fail
    | .slice te, .v false [.vec o] => .get o fun
      | .row e l => match sizeIs X te e.size with
        | true => .opt (ck i l.length) fun n => retC (.rptr o n 0)
        | false => .fail
      | .frow e l => match sizeIs X te e.size with
        | true => .opt (ck i l.length) fun n => retC (.rptr o n 0)
        | false => .fail
      | _ => .fail
    | .array len e, .v false [.ptr o off] => match lookO e X.tt with
      | some de => match Nat.beq de.size 1 && Nat.blt 1 len with
        | true => .get o fun
          | .cells _ => .opt (ck i len) fun n => retC (.aptr o off len n)
          | _ => .fail
        | false => .fail
      | none => .fail
    | _, _ => .fail
  | _ => .fail

def indexM (d : TD) (x ix : A) : HM :=
  match d.desc, x, ix with
  | .str, .v false [.str s], .v false [.int _ i] => .opt (idxS s i) (retI .u8)
  | _, _, _ => .fail

def extractM (x : A) (j : Nat) : HM :=
  match x with
  | .tup ps => match ps[j]? with
    | some (g, cs) => .ret (.v g cs)
    | none => .fail
  | _ => .fail

def closOf (cap : List A) : Option (List Nat) :=
  mapO (fun | .v false [.ptr o 0] => some o | _ => none) cap

def withT (X : Cx) (t : TypeId) (k : TD → HM) : HM :=
  match lookO t X.tt with
  | some d => k d
  | none => .fail

def withTy (d : TD) (k : Ty → HM) : HM :=
  match d.ty with
  | some τ => k τ
  | none => .fail

def aop (X : Cx) (new : Nat) (ρ : Operand → A) (o : Op) : HM :=
  match o with
  | .move x | .assign x => .ret (ρ x)
  | .pick c a b => match ρ c with
    | .v false [.bool t] => .br t (.ret (ρ a)) (.ret (ρ b))
    | _ => .fail
  | .alloc t => withT X t fun d => match d.zero with
    | true => withTy d fun τ => .set new (.cells τ.zcells) (retC (.ptr new 0))
    | false => .fail
  | .box t x => withT X t fun d => match ρ x with
    | .v g cs => match Nat.beq cs.length d.size && cs.all C.known && (g == d.agg) with
      | true => .set new (.cells cs) (retC (.ptr new 0))
      | false => .fail
    | _ => .fail
  | .build t parts => withT X t fun d => match d.desc, d.zero with
    | .struct fs, true => withTy d fun τ =>
      match mapO (fun f => match lookO f.1 X.tt with | some df => some (f.2, df.size) | none => none) fs with
      | some places => match fillC (fun i => places[i]?) τ.zcells (parts.toList.map fun (i, x) => (i, ρ x)) with
        | some cs => .ret (.v true cs)
        | none => .fail
      | none => .fail
    | .array n e, true => withTy d fun τ => withT X e fun de =>
      match fillC (fun i => match Nat.blt i n with | true => some (i * de.size, de.size) | false => none) τ.zcells (parts.toList.map fun (i, x) => (i, ρ x)) with
      | some cs => .ret (.v true cs)
      | none => .fail
    | _, _ => .fail
  | .buildSlice t len parts => withT X t fun d => match d.desc with
    | .slice e => withT X e fun de => withTy de fun τ => match Nat.beq parts.size len && Nat.ble (len * de.size) 16777216 && Nat.blt 0 de.size && (len == 0 || de.zero) with
      | true => partsM τ 0 (parts.toList.map fun (i, x) => (i, ρ x)) fun l => .set new .tok (retC (.sl τ l (.own new)))
      | false => .fail
    | _ => .fail
  | .load t a => withT X t fun d => loadM d (ρ a)
  | .store t a x => withT X t fun d => storeM d (ρ a) (ρ x)
  | .nilCheck x => ptrAdd (ρ x) 0
  | .binOp op t x y _ => match ρ x with
    | .v false [.bool b] => withT X t fun d => match d.desc with
      | .bool => binA op (.v false [.bool b]) (ρ y)
      | _ => .fail
    | .v true cs => withT X t fun d => eqA op d cs (ρ y)
    | .v false [.sl _ _ tk] => withT X t fun d => nilA op d tk (ρ y)
    | a => binA op a (ρ y)
  | .unOp op _ x => unA op (ρ x)
  | .convert src dst x => withT X src fun ds => withT X dst fun d => match d.desc, ρ x with
    | .int k, .v false [.int _ n] => retI k (k.wrap n)
    | .str, .v false [c] => match ds.desc with
      | .slice e => withT X e fun de => match de.desc with
        | .int .u8 => freezeC false c fun
          | .sl (.int .u8) l _ => retC (.str (bytesOf l))
          | .nils => retC (.str [])
          | _ => .fail
        | _ => .fail
      | _ => .fail
    | _, _ => .fail
  | .makeFunc (.func f) first captured => match first.size, closOf (captured.toList.map ρ) with
    | 0, some ids => retC (.clos f ids)
    | _, _ => .fail
  | .makeSlice t l c => withT X t fun d => match d.desc with
    | .slice e => withT X e fun de => match de.zero && Nat.blt 0 de.size with
      | true => withTy de fun τ => match sameOp l c, ρ l, ρ c with
        | true, .v false [.int _ n], _ => .opt (mkn de.bytes n) fun n => .set new (.row τ (List.replicate n τ.zero)) (retC (.vec new))
        | false, .v false [.int _ 0], .v false [.int _ n] => .opt (mkn de.bytes n) fun _ => .set new .tok (retC (.sl τ [] (.own new)))
        | _, _, _ => .fail
      | false => .fail
    | _ => .fail
  | .slice t x lo hi mx => withT X t fun d => sliceM X d (ρ x) (lo.map ρ) (hi.map ρ) (mx.map ρ)
  | .fieldAddr s x j => withT X s fun d => match fieldOff d j with
    | some f => withT X f.1 fun df => match Nat.blt 0 df.size with
      | true => ptrAdd (ρ x) f.2
      | false => .fail
    | none => .fail
  | .field s x j => withT X s fun d => match fieldOff d j with
    | some f => withT X f.1 fun df => match ρ x with
      | .v true cs => partOf df.agg df.size f.2 cs .ret
      | _ => .fail
    | none => .fail
  | .indexAddr t x ix => withT X t fun d => indexAddrM X d (ρ x) (ρ ix)
  | .index t x ix => withT X t fun d => indexM d (ρ x) (ρ ix)
  | .extract x j => extractM (ρ x) j
  | .call c => match c.callee with
    | .builtin b => builtinM X new b c.argTypes.toList (c.args.toList.map ρ)
    | .value f => match ρ f with
      | .v false [.clos f ids] => callF X new f (c.args.toList.map ρ ++ capsA ids)
      | _ => .fail
    | .invoke _ _ => .fail
  | _ => .fail

/-! ### states, regions -/

structure St where
  env : Env
  next : Nat
  heap : Heap

def putE (env : Env) (dst : Option Tmp) (a : A) : Env :=
  match dst with
  | some d => (d, a) :: env
  | none => env

def dstOK (X : Cx) (dst : Option Tmp) : Bool :=
  match dst with
  | some d => Nat.blt d X.nt
  | none => true

/-- one operation, wanted -/
def opK {R : Type} (X : Cx) (new : Nat) (o : Oper) (s : St) (K : St → Log → Option R) : Option R :=
  (aop X new (rho s.env) o.op).run s.next s.heap [] fun a h L => K { s with env := putE s.env o.dst a, heap := h } L

def dstOf (ops : List Oper) (j : Nat) : Option Tmp :=
  match ops[j]? with
  | some o => o.dst
  | none => none

/-- the operations of a region, in the order of the text -/
def opsK {R : Type} (X : Cx) (ops : List Oper) (K : St → List Log → Option R) : Nat → List Oper → St → List Log → Option R
  | _, [], s, Ls => K s Ls
  | new, o :: r, s, Ls => match dstOK X o.dst with
   | false => none
   | true => match o.guard with
    | none => opK X new o s fun s L => opsK X ops K (new + 1) r s (L :: Ls)
    | some (j, want) => match dstOf ops j with
      | some g => match look undefA g s.env with
        | .v false [.bool b] => match want with
          | true => brk b (opK X new o { s with env := (g, .v false [.bool true]) :: s.env } fun s L => opsK X ops K (new + 1) r s (L :: Ls))
              (opsK X ops K (new + 1) r { s with env := putE ((g, .v false [.bool false]) :: s.env) o.dst skipA } ([] :: Ls))
          | false => brk b (opsK X ops K (new + 1) r { s with env := putE ((g, .v false [.bool true]) :: s.env) o.dst skipA } ([] :: Ls))
              (opK X new o { s with env := (g, .v false [.bool false]) :: s.env } fun s L => opsK X ops K (new + 1) r s (L :: Ls))
        | .tup [] => opsK X ops K (new + 1) r { s with env := putE s.env o.dst skipA } ([] :: Ls)
        | _ => none
      | none => none

/-- two operations' doings in the heap do not meet -/
def logsApart (a b : Log) : Bool := a.all fun (o, w) => b.all fun (p, w') => !(Nat.beq o p && (w || w'))

def uses (ops : List Oper) (o : Oper) : List Tmp :=
  (o.op.operands.toList.filterMap fun | .tmp t => some t | _ => none) ++
  (match o.guard with
   | some (g, _) => (dstOf ops g).toList
   | none => [])

def tmpsApart (ops : List Oper) (x y : Oper) : Bool :=
  (match x.dst with
   | some d => (uses ops y).all (fun t => !Nat.beq t d) && (match y.dst with | some e => !Nat.beq e d | none => true)
   | none => true) &&
  (match y.dst with
   | some d => (uses ops x).all fun t => !Nat.beq t d
   | none => true)

/-- which operations wait for which: a row of Bools, the nearest first (j waits for j - 1, j - 2, ..) -/
def waitsOn (ops : Array Oper) (j i : Nat) : Bool := Nat.testBit ((Region.before ops).getD j 0) i

def drawOK (ops : Array Oper) (logs : List Log) : Bool :=
  let b := Region.before ops
  let l := ops.toList
  (List.range ops.size).all fun j => match l[j]?, logs[j]? with
    | some y, some ly => y.after.all (fun e => !Region.binds .any e || Nat.blt e.on j) &&
      (List.range j).all fun i => (b.getD j 0).testBit i || (match l[i]?, logs[i]? with
        | some x, some lx => tmpsApart l x y && logsApart lx ly
        | _, _ => false)
    | _, _ => false

def regionK {R : Type} (X : Cx) (ops : Array Oper) (draw : Bool) (K : St → Option R) (s : St) : Option R :=
  let l := ops.toList
  opsK X l (fun s Ls => match draw with
    | false => K s
    | true => match drawOK ops Ls.reverse with
      | true => K s
      | false => none) s.next l { s with next := s.next + l.length } []

/-! ### states taken down and set up again -/

def CK.den : CK → Type
  | .data τ => τ.den
  | .own e => List e.den
  | .fix _ => Unit

def cksDen : List CK → Type
  | [] => Unit
  | k :: r => k.den × cksDen r

def SK.den : SK → Type
  | .data τ => τ.den
  | .own e => List e.den
  | .fix _ => Unit
  | .box l => cksDen l
  | .ref a => a.den

def OK.den : OK → Type
  | .row e => List e.den
  | .frow e => List e.den
  | .cells l => cksDen l

def obsDen : List (Nat × OK) → Type
  | [] => Unit
  | k :: r => k.2.den × obsDen r

def slotsDen : List (Nat × SK) → List (Nat × OK) → Type
  | [], obs => obsDen obs
  | k :: r, obs => k.2.den × slotsDen r obs

def NS.den (N : NS) : Type := slotsDen N.slots N.obs

def sameC : C → C → Bool
  | .vec o, .vec p => Nat.beq o p
  | .ptr o a, .ptr p b => Nat.beq o p && Nat.beq a b
  | .clos f l, .clos g m => Nat.beq f g && l == m
  | .nilfn, .nilfn => true
  | .nilp, .nilp => true
  | _, _ => false

def sameA : A → A → Bool
  | .v false [c], .v false [d] => sameC c d
  | _, _ => false

/-- the ids that a fixed word names -/
def belowC (n : Nat) : C → Bool
  | .vec o => Nat.blt o n
  | .ptr o _ => Nat.blt o n
  | .clos _ ids => ids.all fun o => Nat.blt o n
  | .nilfn => true
  | .nilp => true
  | _ => false

def belowA (n : Nat) : A → Bool
  | .v false [c] => belowC n c
  | _ => false

/-- the slice in 'c' hands its token on -/
def ownC (e : Ty) (c : C) (h : Heap) : Option (List e.den × Heap) :=
  match c with
  | .nils => some ([], h)
  | .sl e' l (.own o) => match look .dead o h with
    | .tok => match castSl e' e l with
      | some l => some (l, (o, .dead) :: h)
      | none => none
    | _ => none
  | _ => none

def decC (next : Nat) (k : CK) (c : C) (h : Heap) : Option (k.den × Heap) :=
  match k with
  | .data τ => match Nat.beq τ.size 1 && !τ.isAgg && τ.noRef with
    | true => match τ.takeAll [c] with
      | some x => some (x, h)
      | none => none
    | false => none
  | .own e => ownC e c h
  | .fix d => match sameC d c && belowC next d with
    | true => some ((), h)
    | false => none

def decCs (next : Nat) : (l : List CK) → List C → Heap → Option (cksDen l × Heap)
  | [], [], h => some ((), h)
  | k :: r, c :: cs, h => match decC next k c h with
    | some (x, h) => match decCs next r cs h with
      | some (y, h) => some ((x, y), h)
      | none => none
    | none => none
  | _, _, _ => none

def decS (next : Nat) (k : SK) (a : A) (h : Heap) : Option (k.den × Heap) :=
  match k, a with
  | .data τ, .v g cs => match g == τ.isAgg && τ.noRef with
    | true => match τ.takeAll cs with
      | some x => some (x, h)
      | none => none
    | false => none
  | .own e, .v false [c] => ownC e c h
  | .fix a, b => match sameA a b && belowA next a with
    | true => some ((), h)
    | false => none
  | .box ks, .v false [.ptr o off] => match Nat.beq off 0, look .dead o h with
    | true, .cells cs => decCs next ks cs ((o, .dead) :: h)
    | _, _ => none
  | .ref a, .v false [.eptr a' x c] => match Nat.beq c 0, castDen a' a x with
    | true, some x => some (x, h)
    | _, _ => none
  | _, _ => none

def decO (next : Nat) (k : OK) (x : Ob) (h : Heap) : Option (k.den × Heap) :=
  match k, x with
  | .row e, .row e' l => match castSl e' e l with
    | some l => some (l, h)
    | none => none
  | .frow e, .frow e' l => match castSl e' e l with
    | some l => some (l, h)
    | none => none
  | .cells ks, .cells cs => decCs next ks cs h
  | _, _ => none

def decObs (next : Nat) : (l : List (Nat × OK)) → Heap → Option (obsDen l × Heap)
  | [], h => some ((), h)
  | (o, k) :: r, h => match Nat.blt o next with
    | false => none
    | true => match decO next k (look .dead o h) h with
      | some (x, h) => match decObs next r h with
        | some (y, h) => some ((x, y), h)
        | none => none
      | none => none

def decSlots (next : Nat) (env : Env) : (l : List (Nat × SK)) → (obs : List (Nat × OK)) → Heap → Option (slotsDen l obs × Heap)
  | [], obs, h => decObs next obs h
  | (t, k) :: r, obs, h => match decS next k (look undefA t env) h with
    | some (x, h) => match decSlots next env r obs h with
      | some (y, h) => some ((x, y), h)
      | none => none
    | none => none

def dec (N : NS) (s : St) : Option N.den :=
  match Nat.ble N.next s.next with
  | false => none
  | true => match decSlots N.next s.env N.slots N.obs s.heap with
    | some (x, _) => some x
    | none => none

def encC (k : CK) (x : k.den) (new : Nat) : List C × Nat :=
  match k, x with
  | .data τ, x => (τ.cells x, new)
  | .own e, l => ([.sl e l (.own new)], new + 1)
  | .fix c, _ => ([c], new)

def encCs : (l : List CK) → cksDen l → Nat → List C × Nat
  | [], _, new => ([], new)
  | k :: r, x, new =>
    let a := encC k x.1 new
    let b := encCs r x.2 a.2
    (a.1 ++ b.1, b.2)

def encS (k : SK) (x : k.den) (new : Nat) : A × Nat :=
  match k, x with
  | .data τ, x => (.v τ.isAgg (τ.cells x), new)
  | .own e, l => (.v false [.sl e l (.own new)], new + 1)
  | .fix a, _ => (a, new)
  | .box ks, x => (.v false [.ptr new 0], (encCs ks x (new + 1)).2)
  | .ref a, x => (.v false [.eptr a x 0], new)

/-- the variable that a slot brings along -/
def heapS (k : SK) (x : k.den) (new : Nat) : Heap :=
  match k, x with
  | .box ks, x => [(new, .cells (encCs ks x (new + 1)).1)]
  | _, _ => []

def encO (k : OK) (x : k.den) (new : Nat) : Ob × Nat :=
  match k, x with
  | .row e, l => (.row e l, new)
  | .frow e, l => (.frow e l, new)
  | .cells ks, x => let a := encCs ks x new; (.cells a.1, a.2)

def encObs : (l : List (Nat × OK)) → obsDen l → Nat → Heap × Nat
  | [], _, new => ([], new)
  | (o, k) :: r, x, new =>
    let a := encO k x.1 new
    let b := encObs r x.2 a.2
    ((o, a.1) :: b.1, b.2)

def encSlots : (l : List (Nat × SK)) → (obs : List (Nat × OK)) → slotsDen l obs → Nat → Env × Heap × Nat
  | [], obs, x, new => ([], encObs obs x new)
  | (t, k) :: r, obs, x, new =>
    let a := encS k x.1 new
    let b := encSlots r obs x.2 a.2
    ((t, a.1) :: b.1, heapS k x.1 new ++ b.2.1, b.2.2)

def toks (from_ : Nat) : Nat → Heap
  | 0 => []
  | n + 1 => (from_ + n, .tok) :: toks from_ n

def enc (N : NS) (x : N.den) : St :=
  let a := encSlots N.slots N.obs x N.next
  { env := a.1, next := a.2.2, heap := a.2.1 ++ toks N.next (a.2.2 - N.next) }

def outDen : List (Ex × NS) → Type
  | [] => Empty
  | [o] => o.2.den
  | o :: p :: r => o.2.den ⊕ outDen (p :: r)

def sameEx : Ex → Ex → Bool
  | .normal, .normal => true
  | .ret, .ret => true
  | .exit a, .exit b => Nat.beq a b
  | _, _ => false

def outPut : (l : List (Ex × NS)) → Ex → St → Option (outDen l)
  | [], _, _ => none
  | [o], e, s => match sameEx o.1 e with
    | true => dec o.2 s
    | false => none
  | o :: p :: r, e, s => match sameEx o.1 e with
    | true => match dec o.2 s with
      | some x => some (.inl x)
      | none => none
    | false => match outPut (p :: r) e s with
      | some x => some (.inr x)
      | none => none

def sumk {α β R : Type} (x : α ⊕ β) (f : α → Option R) (g : β → Option R) : Option R :=
  match x with
  | .inl a => f a
  | .inr b => g b

def outGet {R : Type} : (l : List (Ex × NS)) → outDen l → (Ex → St → Option R) → Option R
  | [], _, _ => none
  | [o], x, K => K o.1 (enc o.2 x)
  | o :: p :: r, x, K => sumk x (fun x => K o.1 (enc o.2 x)) (fun y => outGet (p :: r) y K)

/-! ### code -/

def firstRegion : Code → Nat
  | .region id _ _ => id
  | .seq a _ => firstRegion a
  | .block _ a => firstRegion a
  | .loop a => firstRegion a
  | .scope a => firstRegion a
  | _ => 0

def seqK {R : Type} (next : St → Option R) (K : Ex → St → Option R) (e : Ex) (s : St) : Option R :=
  match e with
  | .normal => next s
  | e => K e s

def blockK {R : Type} (id : Nat) (K : Ex → St → Option R) (e : Ex) (s : St) : Option R :=
  match e with
  | .exit j => match Nat.beq j id with
    | true => K .normal s
    | false => K (.exit j) s
  | e => K e s

def joinPut (N : NS) (e : Ex) (s : St) : Option N.den :=
  match e with
  | .normal => dec N s
  | _ => none

def loopV (S : LS) (body : (Ex → St → Option (outDen S.outs)) → St → Option (outDen S.outs)) : Nat → S.vin.den → Option (outDen S.outs)
  | 0, _ => none
  | n + 1, v => body (fun e s => match e with
    | .normal => match dec S.vin s with
      | some v => loopV S body n v
      | none => none
    | e => outPut S.outs e s) (enc S.vin v)

def joinOf (X : Cx) : Operand → Option NS
  | .tmp t => lookO t X.joins
  | _ => none

def execK (X : Cx) : Code → {R : Type} → (Ex → St → Option R) → St → Option R
  | .skip, _, K, s => K .normal s
  | .seq a b, _, K, s => execK X a (seqK (execK X b K) K) s
  | .cond c a b, _, K, s => match rho s.env c with
    | .v false [.bool t] => match joinOf X c with
      | some N => (brk t (execK X a (joinPut N) s) (execK X b (joinPut N) s)).bind fun v => K .normal (enc N v)
      | none => brk t (execK X a K s) (execK X b K s)
    | _ => none
  | .block id a, _, K, s => execK X a (blockK id K) s
  | .loop a, _, K, s => match lookO (firstRegion a) X.loops with
    | some S => match dec S.vin s with
      | some v => (loopV S (fun K s => execK X a K s) X.fuel v).bind fun out => outGet S.outs out K
      | none => none
    | none => none
  | .exit id, _, K, s => K (.exit id) s
  | .ret, _, K, s => K .ret s
  | .region _ ops draw, _, K, s => regionK X ops draw (K .normal) s
  | _, _, _, _ => none

/-- the body of the loop that begins with region 'key' -/
def findLoop (key : Nat) : Code → Option Code
  | .seq a b => match findLoop key a with
    | some c => some c
    | none => findLoop key b
  | .cond _ a b => match findLoop key a with
    | some c => some c
    | none => findLoop key b
  | .block _ a => findLoop key a
  | .loop a => match Nat.beq (firstRegion a) key with
    | true => some a
    | false => findLoop key a
  | _ => none

/-- a loop by its key, for itself -/
def loopRun (X : Cx) (fn : Func) (S : LS) (key : Nat) (n : Nat) (v : S.vin.den) : Option (outDen S.outs) :=
  match fn.body with
  | none => none
  | some c => match findLoop key c with
    | some a => loopV S (fun K s => execK X a K s) n v
    | none => none

/-! ### a call -/

def putArgs : Nat → List A → Env
  | _, [] => []
  | n, a :: r => (n, a) :: putArgs (n + 1) r

def resultsK {R : Type} (X : Cx) (s : St) : (rs : List Ty) → List ResultVar → Heap → ((tup rs).den → Heap → Option R) → Option R
  | [], [], h, k => k () h
  | [τ], [r], h, k => resK τ r h k
  | τ :: σ :: rs, r :: vs, h, k => resK τ r h fun x h => resultsK X s (σ :: rs) vs h fun y h => k (x, y) h
  | _, _, _, _ => none
where
  resK (τ : Ty) (r : ResultVar) (h : Heap) (k : τ.den → Heap → Option R) : Option R :=
    match r with
    | .tmp t => valK τ (look undefA t s.env) h k
    | .cell a t => match lookO t X.tt with
      | some d => (loadM d (look undefA a s.env)).run s.next h [] fun a h _ => valK τ a h k
      | none => none
  valK (τ : Ty) (a : A) (h : Heap) (k : τ.den → Heap → Option R) : Option R :=
    match a with
    | .v g cs => match g == τ.isAgg && τ.noRef with
      | true => (freezeCs true cs fun cs => .ret (.v g cs)).run s.next h [] fun a h _ => match a with
        | .v _ cs => match τ.takeAll cs with
          | some x => k x h
          | none => none
        | _ => none
      | false => none
    | _ => none

def bodyRun (X : Cx) (fn : Func) (ps rs : List Ty) (x : (tup ps).den) : Option (tup rs).den :=
  match fn.body, Nat.ble X.nt fn.ntmps with
  | none, _ => none
  | _, false => none
  | some c, true => execK X c (fun e s => match e with
    | .exit _ => none
    | _ => resultsK X s rs fn.results.toList s.heap fun r _ => some r) { env := putArgs 0 (encArgs ps x), next := 0, heap := [] }

/-- .. of a function that hands back a slice of its own -/
def bodyRunO (X : Cx) (fn : Func) (e : Ty) (as : List A) : Option (List e.den) :=
  match fn.body, Nat.ble X.nt fn.ntmps, fn.results.toList with
  | some c, true, [.tmp t] => execK X c (fun ex s => match ex with
    | .exit _ => none
    | _ => match look undefA t s.env with
      | .v false [c] => (ownC e c s.heap).map (·.1)
      | _ => none) { env := putArgs 0 as, next := 0, heap := [] }
  | _, _, _ => none

end Go.Am

/- The abstract machine: how its states stand to the model's worlds, and what keeps that. -/
namespace Go.Am
open Go

abbrev Zone := Nat → Nat → Prop

def PRL {α : Type} (R : α → List Value → Prop) : List α → List Value → Prop
  | [], vs => vs = []
  | x :: l, vs => ∃ es rest, vs = es ++ rest ∧ R x es ∧ PRL R l rest

/-- the cells 'us' stand in a row from 'base' on, all of them in the zone -/
def At (w : World) (Z : Zone) (base : Option Addr) (us : List Value) : Prop :=
  us ≠ [] → ∃ b off, base = some ⟨b, off, none⟩ ∧ ∀ j u, us[j]? = some u → w.cell? ⟨b, off + j, none⟩ = some u ∧ Z b (off + j)

/-- the cells 'vs' read as the datum -/
def PR (w : World) (Z Zp : Zone) : (τ : Ty) → τ.den → List Value → Prop
  | .bool, b, vs => vs = [.bool b]
  | .int k, n, vs => vs = [.int k n]
  | .str, s, vs => vs = [.string ⟨s.toArray⟩]
  | .sl e, l, vs => ∃ base cap us, vs = [.slice base (List.length l) cap] ∧ List.length l ≤ cap ∧ PRL (PR w Z Zp e) l us ∧ At w Z base us
  | .pair a b, x, vs => ∃ us rs, vs = us ++ rs ∧ PR w Z Zp a x.1 us ∧ PR w Z Zp b x.2 rs
  | .unit, _, vs => vs = []
  | .ref a, x, vs => ∃ b off us, vs = [.pointer (some ⟨b, off, none⟩)] ∧ PR w Z Zp a x us ∧
      ∀ j u, us[j]? = some u → w.cell? ⟨b, off + j, none⟩ = some u ∧ Zp b (off + j)
  | .fn f, _, vs => vs = [.func (.func f) #[] #[]]

theorem PRL.length {α : Type} {R : α → List Value → Prop} {k : Nat} (hk : ∀ x es, R x es → es.length = k) : ∀ (l : List α) (vs : List Value), PRL R l vs → vs.length = l.length * k
  | [], vs, h => by simp [PRL] at h; simp [h]
  | x :: l, vs, ⟨es, rest, e, hx, hl⟩ => by
    subst e
    simp [hk x es hx, PRL.length hk l rest hl, Nat.add_mul, Nat.add_comm]

theorem PR.length {w : World} {Z Zp : Zone} : ∀ (τ : Ty) (x : τ.den) (vs : List Value), PR w Z Zp τ x vs → vs.length = τ.size
  | .bool, _, _, h => by simp [PR] at h; simp [h, Ty.size]
  | .int _, _, _, h => by simp [PR] at h; simp [h, Ty.size]
  | .str, _, _, h => by simp [PR] at h; simp [h, Ty.size]
  | .sl _, _, _, ⟨_, _, _, h, _⟩ => by simp [h, Ty.size]
  | .pair a b, x, _, ⟨us, rs, h, h1, h2⟩ => by simp [h, Ty.size, PR.length a _ _ h1, PR.length b _ _ h2]
  | .unit, _, _, h => by simp [PR] at h; simp [h, Ty.size]
  | .ref _, _, _, ⟨_, _, _, h, _⟩ => by simp [h, Ty.size]
  | .fn _, _, _, h => by simp [PR] at h; simp [h, Ty.size]

theorem PRL.mono {α : Type} {R R' : α → List Value → Prop} (h : ∀ x es, R x es → R' x es) : ∀ (l : List α) (vs : List Value), PRL R l vs → PRL R' l vs
  | [], _, hh => hh
  | _ :: l, _, ⟨es, rest, e, hx, hl⟩ => ⟨es, rest, e, h _ _ hx, PRL.mono h l rest hl⟩

/-- the zone's cells are in w' as they were in w, and in the zone Z' -/
def Keeps (w w' : World) (Z Z' : Zone) : Prop := ∀ b i, Z b i → Z' b i ∧ w'.cell? ⟨b, i, none⟩ = w.cell? ⟨b, i, none⟩

theorem Keeps.refl (w : World) (Z : Zone) : Keeps w w Z Z := fun _ _ h => ⟨h, rfl⟩
theorem Keeps.trans {w w1 w2 : World} {Z Z1 Z2 : Zone} (h : Keeps w w1 Z Z1) (k : Keeps w1 w2 Z1 Z2) : Keeps w w2 Z Z2 :=
  fun b i hz => ⟨(k b i (h b i hz).1).1, (k b i (h b i hz).1).2.trans (h b i hz).2⟩

theorem At.mono {w w' : World} {Z Z' : Zone} (h : Keeps w w' Z Z') {base : Option Addr} {us : List Value} (ha : At w Z base us) : At w' Z' base us := by
  intro hne
  obtain ⟨b, off, hb, hc⟩ := ha hne
  exact ⟨b, off, hb, fun j u hj => ⟨(h _ _ (hc j u hj).2).2.trans (hc j u hj).1, (h _ _ (hc j u hj).2).1⟩⟩

theorem PR.mono {w w' : World} {Z Z' Zp Zp' : Zone} (h : Keeps w w' Z Z') (hp : Keeps w w' Zp Zp') : ∀ (τ : Ty) (x : τ.den) (vs : List Value), PR w Z Zp τ x vs → PR w' Z' Zp' τ x vs
  | .bool, _, _, hh => hh
  | .int _, _, _, hh => hh
  | .str, _, _, hh => hh
  | .sl e, l, _, ⟨base, cap, us, e1, e2, e3, e4⟩ => ⟨base, cap, us, e1, e2, PRL.mono (fun x es hx => PR.mono h hp e x es hx) l us e3, e4.mono h⟩
  | .pair a b, _, _, ⟨us, rs, e, h1, h2⟩ => ⟨us, rs, e, PR.mono h hp a _ _ h1, PR.mono h hp b _ _ h2⟩
  | .unit, _, _, hh => hh
  | .ref a, _, _, ⟨b, off, us, e, h1, h2⟩ => ⟨b, off, us, e, PR.mono h hp a _ _ h1, fun j u hj => ⟨(hp _ _ (h2 j u hj).2).2.trans (h2 j u hj).1, (hp _ _ (h2 j u hj).2).1⟩⟩
  | .fn _, _, _, hh => hh

/-- flat data lean on no zone -/
theorem PR.flat {w w' : World} {Z Z' Zp Zp' : Zone} : ∀ (τ : Ty) (x : τ.den) (vs : List Value), τ.flat = true → PR w Z Zp τ x vs → PR w' Z' Zp' τ x vs
  | .bool, _, _, _, hh => hh
  | .int _, _, _, _, hh => hh
  | .str, _, _, _, hh => hh
  | .sl _, _, _, hf, _ => by simp [Ty.flat] at hf
  | .pair a b, _, _, hf, ⟨us, rs, e, h1, h2⟩ => by
    simp [Ty.flat] at hf
    exact ⟨us, rs, e, PR.flat a _ _ hf.1 h1, PR.flat b _ _ hf.2 h2⟩
  | .unit, _, _, _, hh => hh
  | .ref _, _, _, hf, _ => by simp [Ty.flat] at hf
  | .fn _, _, _, _, hh => hh

/-- what has no references leans on the first zone alone -/
theorem PR.noRef {w : World} {Z Zp Zp' : Zone} : ∀ (τ : Ty) (x : τ.den) (vs : List Value), τ.noRef = true → PR w Z Zp τ x vs → PR w Z Zp' τ x vs
  | .bool, _, _, _, hh => hh
  | .int _, _, _, _, hh => hh
  | .str, _, _, _, hh => hh
  | .sl e, l, _, hf, ⟨base, cap, us, e1, e2, e3, e4⟩ => ⟨base, cap, us, e1, e2, PRL.mono (fun x es hx => PR.noRef e x es hf hx) l us e3, e4⟩
  | .pair a b, _, _, hf, ⟨us, rs, e, h1, h2⟩ => by
    simp [Ty.noRef] at hf
    exact ⟨us, rs, e, PR.noRef a _ _ hf.1 h1, PR.noRef b _ _ hf.2 h2⟩
  | .unit, _, _, _, hh => hh
  | .ref _, _, _, hf, _ => by simp [Ty.noRef] at hf
  | .fn _, _, _, _, hh => hh

/-! ### ghosts -/

structure G where
  al : Nat → Prop
  Z : Zone
  hm : Nat → Option Nat
  lo : Nat → Nat

def Ob.dead? : Ob → Bool
  | .dead => true
  | _ => false

/-- what a live token says of the slice that bears it -/
def TokR (w : World) (base : Nat) (g : G) (o : Nat) (size len : Nat) (v : Value) : Prop :=
  (g.hm o = none ∧ v = .slice none 0 0 ∧ len = 0) ∨
  (∃ b cap cur e0, g.hm o = some b ∧ v = .slice (some ⟨b, 0, none⟩) len cap ∧ w.heap[b]? = some (.cells cur e0 (0, 0)) ∧
    len ≤ cap ∧ cap ≤ maxLen ∧ cur.size = cap * size ∧ base ≤ b ∧ g.lo o = len * size)

def rowLen : Ob → Option (Ty × Nat)
  | .row e l => some (e, List.length l)
  | .frow e l => some (e, List.length l)
  | _ => none

def isPtr (v : Value) : Prop := ∃ a, v = .pointer a

def CR (w : World) (base : Nat) (Zp : Zone) (h : Heap) (g : G) : C → Value → Prop
  | .undef, _ => True
  | .bool b, v => v = .bool b
  | .int k n, v => v = .int k n
  | .str s, v => v = .string ⟨s.toArray⟩
  | .sl e l t, v => PR w g.Z Zp (.sl e) l [v] ∧ match t with
    | .no => True
    | .nn => ∃ a n c, v = .slice (some a) n c
    | .nl => ∃ n c, v = .slice none n c
    | .own o => g.al o ∧ (look .dead o h = .tok → TokR w base g o e.size (List.length l) v)
  | .nils, v => v = .slice none 0 0
  | .vec o, v => g.al o ∧ (∃ a n m, v = .slice a n m) ∧ ∀ e n, rowLen (look .dead o h) = some (e, n) → ∃ b, g.hm o = some b ∧ v = .slice (some ⟨b, 0, none⟩) n n
  | .ptr o off, v => g.al o ∧ isPtr v ∧ (look .dead o h ≠ .dead → ∃ b, g.hm o = some b ∧ v = .pointer (some ⟨b, off, none⟩))
  | .rptr o i c, v => g.al o ∧ isPtr v ∧ ∀ e n, rowLen (look .dead o h) = some (e, n) → ∃ b, g.hm o = some b ∧ v = .pointer (some ⟨b, i * e.size + c, none⟩)
  | .aptr o off _ i, v => g.al o ∧ isPtr v ∧ (look .dead o h ≠ .dead → ∃ b, g.hm o = some b ∧ v = .pointer (some ⟨b, off + i, none⟩))
  | .eptr a x c, v => ∃ b off us, v = .pointer (some ⟨b, off + c, none⟩) ∧ PR w g.Z Zp a x us ∧
      ∀ j u, us[j]? = some u → w.cell? ⟨b, off + j, none⟩ = some u ∧ (g.Z b (off + j) ∨ Zp b (off + j))
  | .clos f ids, v => ∃ caps, v = .func (.func f) #[] caps ∧ PRL (fun o es => g.al o ∧ ∃ u, es = [u] ∧ isPtr u ∧ (look .dead o h ≠ .dead → ∃ b, g.hm o = some b ∧ u = .pointer (some ⟨b, 0, none⟩))) ids caps.toList
  | .nilfn, v => v = .nilFunc
  | .nilp, v => v = .pointer none

def CRs (w : World) (base : Nat) (Zp : Zone) (h : Heap) (g : G) : List C → List Value → Prop
  | [], vs => vs = []
  | c :: cs, vs => ∃ v rest, vs = v :: rest ∧ CR w base Zp h g c v ∧ CRs w base Zp h g cs rest

def VR (w : World) (base : Nat) (Zp : Zone) (h : Heap) (g : G) (agg : Bool) (cs : List C) (v : Value) : Prop :=
  match agg with
  | true => ∃ vs : List Value, v = .agg vs.toArray ∧ CRs w base Zp h g cs vs
  | false => CRs w base Zp h g cs [v]

def AR (w : World) (base : Nat) (Zp : Zone) (h : Heap) (g : G) : A → Value → Prop
  | .v agg cs, v => VR w base Zp h g agg cs v
  | .tup ps, v => ∃ vs : List Value, v = .tuple vs.toArray ∧ PRL (fun (p : Bool × List C) es => ∃ u, es = [u] ∧ VR w base Zp h g p.1 p.2 u) ps vs

/-- an object and its block -/
def ObR (w : World) (base : Nat) (Zp : Zone) (h : Heap) (g : G) (o : Nat) : Ob → Prop
  | .dead => True
  | .tok => True
  | .cells cs => ∃ b cur e0, g.hm o = some b ∧ w.heap[b]? = some (.cells cur e0 (0, 0)) ∧ CRs w base Zp h g cs cur.toList
  | .row e l => 0 < e.size ∧ e.noRef = true ∧ ∃ b cur e0, g.hm o = some b ∧ w.heap[b]? = some (.cells cur e0 (0, 0)) ∧ PRL (PR w g.Z Zp e) l cur.toList
  | .frow e l => 0 < e.size ∧ e.noRef = true ∧ ∃ b cur e0 fz, g.hm o = some b ∧ w.heap[b]? = some (.cells cur e0 fz) ∧ PRL (PR w g.Z Zp e) l cur.toList ∧ ∀ i, i < cur.size → g.Z b i

/-- may the object's cells be written? -/
def Ob.open? : Ob → Bool
  | .cells _ => true
  | .row _ _ => true
  | _ => false

structure HR (w0 : World) (Z0 Zp : Zone) (h : Heap) (g : G) (w : World) : Prop where
  ext : w0.Extends w
  ob : ∀ o, ObR w w0.heap.size Zp h g o (look .dead o h)
  dead : ∀ o, ¬ g.al o → look .dead o h = .dead
  home : ∀ o b, look .dead o h ≠ .dead → g.hm o = some b → w0.heap.size ≤ b ∧ b < w.heap.size
  dist : ∀ o p b, look .dead o h ≠ .dead → look .dead p h ≠ .dead → g.hm o = some b → g.hm p = some b → o = p
  excl : ∀ o b i, (look .dead o h).open? = true → g.hm o = some b → ¬ g.Z b i
  excT : ∀ o b i, look .dead o h = .tok → g.hm o = some b → g.Z b i → i < g.lo o
  zlt : ∀ b i, g.Z b i → b < w.heap.size
  zold : ∀ b i, b < w0.heap.size → g.Z b i → Z0 b i
  z0 : ∀ b i, Z0 b i → g.Z b i
  zp : ∀ b i, Zp b i → b < w0.heap.size

/-- how an object may turn without harm to who names it -/
def Ob.to (x y : Ob) : Prop :=
  y = .dead ∨ (x = .tok ∧ y = .tok) ∨ (∃ cs cs', x = .cells cs ∧ y = .cells cs') ∨ (∃ r, rowLen x = some r ∧ rowLen y = some r)

theorem Ob.to.refl (x : Ob) : x.to x := by
  cases x
  · exact .inl rfl
  · exact .inr (.inl ⟨rfl, rfl⟩)
  · exact .inr (.inr (.inl ⟨_, _, rfl, rfl⟩))
  · exact .inr (.inr (.inr ⟨_, rfl, rfl⟩))
  · exact .inr (.inr (.inr ⟨_, rfl, rfl⟩))

structure Le (Zp : Zone) (h : Heap) (g : G) (w : World) (h' : Heap) (g' : G) (w' : World) : Prop where
  al : ∀ o, g.al o → g'.al o
  z : Keeps w w' g.Z g'.Z
  zp : Keeps w w' Zp Zp
  ob : ∀ o, g.al o → (look .dead o h).to (look .dead o h')
  hm : ∀ o, g.al o → look .dead o h' ≠ .dead → g'.hm o = g.hm o
  tok : ∀ o, g.al o → look .dead o h' = .tok → g'.lo o = g.lo o ∧ ∀ b, g.hm o = some b → w'.heap[b]? = w.heap[b]?

theorem Le.refl (Zp : Zone) (h : Heap) (g : G) (w : World) : Le Zp h g w h g w :=
  ⟨fun _ h => h, Keeps.refl _ _, Keeps.refl _ _, fun _ _ => Ob.to.refl _, fun _ _ _ => rfl, fun _ _ _ => ⟨rfl, fun _ _ => rfl⟩⟩

theorem Ob.to.alive {x y : Ob} (h : x.to y) (hy : y ≠ .dead) : x ≠ .dead := by
  rcases h with h | ⟨rfl, rfl⟩ | ⟨_, _, rfl, rfl⟩ | ⟨r, h1, h2⟩
  · exact absurd h hy
  · simp
  · simp
  · intro hx; subst hx; simp [rowLen] at h1

theorem Ob.to.row {x y : Ob} (h : x.to y) {r : Ty × Nat} (hy : rowLen y = some r) : rowLen x = some r := by
  rcases h with rfl | ⟨rfl, rfl⟩ | ⟨_, _, rfl, rfl⟩ | ⟨q, h1, h2⟩
  · simp [rowLen] at hy
  · simp [rowLen] at hy
  · simp [rowLen] at hy
  · rw [h2] at hy; cases hy; exact h1

theorem Ob.to.tok {x y : Ob} (h : x.to y) (hy : y = .tok) : x = .tok := by
  subst hy
  rcases h with h | ⟨rfl, _⟩ | ⟨_, _, _, h⟩ | ⟨q, _, h⟩
  · cases h
  · rfl
  · cases h
  · simp [rowLen] at h

section
variable {w w' : World} {base : Nat} {Zp : Zone} {h h' : Heap} {g g' : G}

theorem CR.mono (L : Le Zp h g w h' g' w') : ∀ (c : C) (v : Value), CR w base Zp h g c v → CR w' base Zp h' g' c v
  | .undef, _, _ => trivial
  | .bool _, _, hh => hh
  | .int _ _, _, hh => hh
  | .str _, _, hh => hh
  | .sl e l t, v, ⟨h1, h2⟩ => by
    refine ⟨PR.mono L.z L.zp _ _ _ h1, ?_⟩
    cases t with
    | no => trivial
    | nn => exact h2
    | nl => exact h2
    | own o =>
      obtain ⟨ha, h2⟩ := h2
      refine ⟨L.al o ha, fun ht => ?_⟩
      have ht0 := (L.ob o ha).tok ht
      have hhm := L.hm o ha (by rw [ht]; simp)
      obtain ⟨hlo, hb⟩ := L.tok o ha ht
      rcases h2 ht0 with ⟨a, b, c⟩ | ⟨b, cap, cur, e0, a1, a2, a3, a4⟩
      · exact .inl ⟨hhm.trans a, b, c⟩
      · exact .inr ⟨b, cap, cur, e0, hhm.trans a1, a2, (hb b a1).trans a3, a4.1, a4.2.1, a4.2.2.1, a4.2.2.2.1, hlo.trans a4.2.2.2.2⟩
  | .nils, _, hh => hh
  | .vec o, v, ⟨ha, hs, hr⟩ => ⟨L.al o ha, hs, fun e n he => by
      obtain ⟨b, h1, h2⟩ := hr e n ((L.ob o ha).row he)
      exact ⟨b, (L.hm o ha (by intro hd; rw [hd] at he; simp [rowLen] at he)).trans h1, h2⟩⟩
  | .ptr o off, v, ⟨ha, hs, hr⟩ => ⟨L.al o ha, hs, fun hd => by
      obtain ⟨b, h1, h2⟩ := hr ((L.ob o ha).alive hd)
      exact ⟨b, (L.hm o ha hd).trans h1, h2⟩⟩
  | .rptr o i c, v, ⟨ha, hs, hr⟩ => ⟨L.al o ha, hs, fun e n he => by
      obtain ⟨b, h1, h2⟩ := hr e n ((L.ob o ha).row he)
      exact ⟨b, (L.hm o ha (by intro hd; rw [hd] at he; simp [rowLen] at he)).trans h1, h2⟩⟩
  | .aptr o off _ i, v, ⟨ha, hs, hr⟩ => ⟨L.al o ha, hs, fun hd => by
      obtain ⟨b, h1, h2⟩ := hr ((L.ob o ha).alive hd)
      exact ⟨b, (L.hm o ha hd).trans h1, h2⟩⟩
  | .eptr a x c, v, ⟨b, off, us, h1, h2, h3⟩ => ⟨b, off, us, h1, PR.mono L.z L.zp _ _ _ h2, fun j u hj => by
      obtain ⟨h4, h5⟩ := h3 j u hj
      rcases h5 with h5 | h5
      · exact ⟨(L.z _ _ h5).2.trans h4, .inl (L.z _ _ h5).1⟩
      · exact ⟨(L.zp _ _ h5).2.trans h4, .inr h5⟩⟩
  | .clos f ids, v, ⟨caps, h1, h2⟩ => ⟨caps, h1, PRL.mono (fun o es ⟨ha, u, e, hp, hr⟩ => ⟨L.al o ha, u, e, hp, fun hd => by
      obtain ⟨b, h1, h2⟩ := hr ((L.ob o ha).alive hd)
      exact ⟨b, (L.hm o ha hd).trans h1, h2⟩⟩) _ _ h2⟩
  | .nilfn, _, hh => hh
  | .nilp, _, hh => hh

theorem CRs.mono (L : Le Zp h g w h' g' w') : ∀ (cs : List C) (vs : List Value), CRs w base Zp h g cs vs → CRs w' base Zp h' g' cs vs
  | [], _, hh => hh
  | c :: cs, _, ⟨v, rest, e, h1, h2⟩ => ⟨v, rest, e, CR.mono L c v h1, CRs.mono L cs rest h2⟩

theorem VR.mono (L : Le Zp h g w h' g' w') (agg : Bool) (cs : List C) (v : Value) (hh : VR w base Zp h g agg cs v) : VR w' base Zp h' g' agg cs v := by
  cases agg with
  | true => obtain ⟨vs, e, h1⟩ := hh; exact ⟨vs, e, CRs.mono L _ _ h1⟩
  | false => exact CRs.mono L _ _ hh

theorem AR.mono (L : Le Zp h g w h' g' w') (a : A) (v : Value) (hh : AR w base Zp h g a v) : AR w' base Zp h' g' a v := by
  cases a with
  | v agg cs => exact VR.mono L _ _ _ hh
  | tup ps =>
    obtain ⟨vs, e, h1⟩ := hh
    exact ⟨vs, e, PRL.mono (fun p es ⟨u, e, hu⟩ => ⟨u, e, VR.mono L _ _ _ hu⟩) _ _ h1⟩
end

theorem CRs.length {w : World} {base : Nat} {Zp : Zone} {h : Heap} {g : G} : ∀ (cs : List C) (vs : List Value), CRs w base Zp h g cs vs → vs.length = cs.length
  | [], _, hh => by simp [CRs] at hh; simp [hh]
  | _ :: cs, _, ⟨v, rest, e, _, h2⟩ => by simp [e, CRs.length cs rest h2]

theorem CRs.get {w : World} {base : Nat} {Zp : Zone} {h : Heap} {g : G} : ∀ (cs : List C) (vs : List Value), CRs w base Zp h g cs vs → ∀ (i : Nat) (c : C), cs[i]? = some c → ∃ v : Value, vs[i]? = some v ∧ CR w base Zp h g c v
  | [], _, _, i, c, hc => by simp at hc
  | _ :: cs, _, ⟨v, rest, e, h1, h2⟩, 0, c, hc => by simp at hc; subst hc; subst e; exact ⟨v, by simp, h1⟩
  | _ :: cs, _, ⟨v, rest, e, h1, h2⟩, i + 1, c, hc => by subst e; simpa using CRs.get cs rest h2 i c (by simpa using hc)

theorem CRs.append {w : World} {base : Nat} {Zp : Zone} {h : Heap} {g : G} : ∀ (cs ds : List C) (vs us : List Value), CRs w base Zp h g cs vs → CRs w base Zp h g ds us → CRs w base Zp h g (cs ++ ds) (vs ++ us)
  | [], _, _, _, h1, h2 => by simp [CRs] at h1; subst h1; simpa using h2
  | _ :: cs, ds, _, us, ⟨v, rest, e, h1, h3⟩, h2 => by subst e; exact ⟨v, rest ++ us, by simp, h1, CRs.append cs ds rest us h3 h2⟩

theorem CRs.split {w : World} {base : Nat} {Zp : Zone} {h : Heap} {g : G} : ∀ (cs ds : List C) (vs : List Value), CRs w base Zp h g (cs ++ ds) vs → ∃ us rs, vs = us ++ rs ∧ CRs w base Zp h g cs us ∧ CRs w base Zp h g ds rs
  | [], _, vs, hh => ⟨[], vs, by simp, by simp [CRs], by simpa using hh⟩
  | _ :: cs, ds, _, ⟨v, rest, e, h1, h2⟩ => by
    obtain ⟨us, rs, e2, h3, h4⟩ := CRs.split cs ds rest h2
    exact ⟨v :: us, rs, by simp [e, e2], ⟨v, us, rfl, h1, h3⟩, h4⟩

theorem CRs.take {w : World} {base : Nat} {Zp : Zone} {h : Heap} {g : G} (n : Nat) : ∀ (cs : List C) (vs : List Value), CRs w base Zp h g cs vs → CRs w base Zp h g (cs.take n) (vs.take n) := by
  induction n with
  | zero => intro cs vs _; simp [CRs]
  | succ n ih =>
    intro cs vs hh
    cases cs with
    | nil => simp [CRs] at hh; subst hh; simp [CRs]
    | cons c cs => obtain ⟨v, rest, e, h1, h2⟩ := hh; subst e; exact ⟨v, rest.take n, by simp, h1, ih _ _ h2⟩

theorem CRs.drop {w : World} {base : Nat} {Zp : Zone} {h : Heap} {g : G} (n : Nat) : ∀ (cs : List C) (vs : List Value), CRs w base Zp h g cs vs → CRs w base Zp h g (cs.drop n) (vs.drop n) := by
  induction n with
  | zero => intro cs vs hh; simpa using hh
  | succ n ih =>
    intro cs vs hh
    cases cs with
    | nil => simp [CRs] at hh; subst hh; simp [CRs]
    | cons c cs => obtain ⟨v, rest, e, h1, h2⟩ := hh; subst e; simpa using ih _ _ h2

/-- a known cell's value fits into one cell -/
theorem CR.one {w : World} {base : Nat} {Zp : Zone} {h : Heap} {g : G} : ∀ (c : C) (v : Value), c.known = true → CR w base Zp h g c v → v.oneCell' = true
  | .undef, _, hk, _ => by simp [C.known] at hk
  | .bool _, _, _, hh => by simp [CR] at hh; subst hh; rfl
  | .int _ _, _, _, hh => by simp [CR] at hh; subst hh; rfl
  | .str _, _, _, hh => by simp [CR] at hh; subst hh; rfl
  | .sl _ _ _, _, _, ⟨⟨_, _, _, hh, _⟩, _⟩ => by simp at hh; subst hh; rfl
  | .nils, _, _, hh => by simp [CR] at hh; subst hh; rfl
  | .vec _, _, _, ⟨_, ⟨_, _, _, hh⟩, _⟩ => by subst hh; rfl
  | .ptr _ _, _, _, ⟨_, ⟨_, hh⟩, _⟩ => by subst hh; rfl
  | .rptr _ _ _, _, _, ⟨_, ⟨_, hh⟩, _⟩ => by subst hh; rfl
  | .aptr _ _ _ _, _, _, ⟨_, ⟨_, hh⟩, _⟩ => by subst hh; rfl
  | .eptr _ _ _, _, _, ⟨_, _, _, hh, _⟩ => by subst hh; rfl
  | .clos _ _, _, _, ⟨_, hh, _⟩ => by subst hh; rfl
  | .nilfn, _, _, hh => by simp [CR] at hh; subst hh; rfl
  | .nilp, _, _, hh => by simp [CR] at hh; subst hh; rfl

theorem CRs.one {w : World} {base : Nat} {Zp : Zone} {h : Heap} {g : G} : ∀ (cs : List C) (vs : List Value), cs.all C.known = true → CRs w base Zp h g cs vs → ∀ v ∈ vs, v.oneCell' = true
  | [], _, _, hh => by simp [CRs] at hh; simp [hh]
  | c :: cs, _, hk, ⟨v, rest, e, h1, h2⟩ => by
    simp at hk
    subst e
    intro u hu
    simp at hu
    rcases hu with rfl | hu
    · exact CR.one c u hk.1 h1
    · exact CRs.one cs rest (by simpa using hk.2) h2 u hu

/-- typed data as cells -/
theorem CRs.of_PR {w : World} {base : Nat} {Zp : Zone} {h : Heap} {g : G} : ∀ (τ : Ty) (x : τ.den) (vs : List Value), PR w g.Z Zp τ x vs → CRs w base Zp h g (τ.cells x) vs
  | .bool, _, _, hh => ⟨_, [], hh, rfl, rfl⟩
  | .int _, _, _, hh => ⟨_, [], hh, rfl, rfl⟩
  | .str, _, _, hh => ⟨_, [], hh, rfl, rfl⟩
  | .sl e, l, _, ⟨base, cap, us, e1, e2⟩ => ⟨_, [], e1, ⟨⟨base, cap, us, rfl, e2⟩, trivial⟩, rfl⟩
  | .pair a b, x, _, ⟨us, rs, e, h1, h2⟩ => by subst e; exact CRs.append _ _ _ _ (CRs.of_PR a _ _ h1) (CRs.of_PR b _ _ h2)
  | .unit, _, _, hh => hh
  | .ref a, x, _, ⟨b, off, us, e, h1, h2⟩ => ⟨_, [], e, ⟨b, off, us, by simp, h1, fun j u hj => ⟨(h2 j u hj).1, .inr (h2 j u hj).2⟩⟩, rfl⟩
  | .fn f, _, _, hh => ⟨_, [], hh, ⟨#[], rfl, by simp [PRL]⟩, rfl⟩

theorem castSl_eq {a b : Ty} {l : List a.den} {m : List b.den} (hc : castSl a b l = some m) : ∃ h : a = b, m = h ▸ l := by
  unfold castSl at hc
  split at hc
  · rename_i h _; cases hc; exact ⟨h, rfl⟩
  · cases hc

/-- what is read off a row of cells is what the values read as. The zone for references: 'Zp' alone. -/
theorem take_PR {w : World} {base : Nat} {Zp : Zone} {h : Heap} {g : G} : ∀ (τ : Ty) (cs : List C) (vs : List Value) (x : τ.den) (r : List C), τ.noRef = true → CRs w base Zp h g cs vs → τ.take cs = some (x, r) →
    ∃ us rs, vs = us ++ rs ∧ PR w g.Z Zp τ x us ∧ CRs w base Zp h g r rs
  | .bool, cs, vs, x, r, _, hc, ht => by
    cases cs with
    | nil => simp [Ty.take] at ht
    | cons c cs =>
      obtain ⟨v, rest, e, h1, h2⟩ := hc
      cases c <;> simp [Ty.take] at ht
      obtain ⟨rfl, rfl⟩ := ht
      simp [CR] at h1
      exact ⟨[v], rest, e, by simp [PR, h1], h2⟩
  | .int k, cs, vs, x, r, _, hc, ht => by
    cases cs with
    | nil => simp [Ty.take] at ht
    | cons c cs =>
      obtain ⟨v, rest, e, h1, h2⟩ := hc
      cases c <;> simp only [Ty.take] at ht <;> try (cases ht; done)
      split at ht
      · rename_i hk _; subst hk
        simp at ht
        obtain ⟨rfl, rfl⟩ := ht
        simp [CR] at h1
        exact ⟨[v], rest, e, by simp [PR, h1], h2⟩
      · cases ht
  | .str, cs, vs, x, r, _, hc, ht => by
    cases cs with
    | nil => simp [Ty.take] at ht
    | cons c cs =>
      obtain ⟨v, rest, e, h1, h2⟩ := hc
      cases c <;> simp [Ty.take] at ht
      obtain ⟨rfl, rfl⟩ := ht
      simp [CR] at h1
      exact ⟨[v], rest, e, by simp [PR, h1], h2⟩
  | .sl e, cs, vs, x, r, _, hc, ht => by
    cases cs with
    | nil => simp [Ty.take] at ht
    | cons c cs =>
      obtain ⟨v, rest, e1, h1, h2⟩ := hc
      cases c <;> simp only [Ty.take] at ht <;> try (cases ht; done)
      · rename_i e' l t
        split at ht
        · rename_i m hm
          obtain ⟨he, hm⟩ := castSl_eq hm
          subst he; subst hm
          simp at ht
          obtain ⟨rfl, rfl⟩ := ht
          exact ⟨[v], rest, e1, h1.1, h2⟩
        · cases ht
      · simp at ht
        obtain ⟨rfl, rfl⟩ := ht
        simp [CR] at h1
        exact ⟨[v], rest, e1, ⟨none, 0, [], by simp [h1], by simp, by simp [PRL], by simp [At]⟩, h2⟩
  | .pair a b, cs, vs, x, r, hn, hc, ht => by
    simp [Ty.noRef] at hn
    simp only [Ty.take] at ht
    split at ht
    · rename_i y r1 h1
      split at ht
      · rename_i z r2 h2
        cases ht
        obtain ⟨us, rs, e, p1, c1⟩ := take_PR a cs vs y r1 hn.1 hc h1
        obtain ⟨us2, rs2, e2, p2, c2⟩ := take_PR b r1 rs z _ hn.2 c1 h2
        exact ⟨us ++ us2, rs2, by simp [e, e2], ⟨us, us2, rfl, p1, p2⟩, c2⟩
      · cases ht
    · cases ht
  | .unit, cs, vs, x, r, _, hc, ht => by
    cases ht
    exact ⟨[], vs, by simp, by simp [PR], hc⟩
  | .ref a, _, _, _, _, hn, _, _ => by simp [Ty.noRef] at hn
  | .fn f, cs, vs, x, r, _, hc, ht => by
    cases cs with
    | nil => simp [Ty.take] at ht
    | cons c cs =>
      obtain ⟨v, rest, e1, h1, h2⟩ := hc
      cases c <;> try (cases ht; done)
      rename_i g' ids
      cases ids with
      | cons _ _ => cases ht
      | nil =>
      simp only [Ty.take] at ht
      split at ht
      · rename_i hf _; subst hf
        cases ht
        obtain ⟨caps, e2, e3⟩ := h1
        simp [PRL] at e3
        have : caps = #[] := by simpa using e3
        subst this
        exact ⟨[v], rest, e1, by simp [PR, e2], h2⟩
      · cases ht

theorem takeAll_PR {w : World} {base : Nat} {Zp : Zone} {h : Heap} {g : G} {τ : Ty} {cs : List C} {vs : List Value} {x : τ.den} (hn : τ.noRef = true) (hc : CRs w base Zp h g cs vs) (ht : τ.takeAll cs = some x) : PR w g.Z Zp τ x vs := by
  unfold Ty.takeAll at ht
  split at ht
  · rename_i y hy
    cases ht
    obtain ⟨us, rs, e, p, c⟩ := take_PR τ cs vs _ _ hn hc hy
    simp [CRs] at c
    subst c
    simp at e
    subst e
    exact p
  · cases ht

end Go.Am
