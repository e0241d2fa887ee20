/- The evaluator and its soundness, part 1: a function of the program does what its native form tells. -/
import Derived.RowKit3
import Derived.Below
import Derived.Laws.AppendOwn
import Derived.Laws.OwnMore
import Derived.Laws.MakeOwn
import Derived.Laws.Slices
import Derived.Laws.CopyRow
import Derived.Laws.Cells
import Derived.Laws.Strings
import Derived.Laws.Small
import Derived.Laws.Cover3
set_option linter.unusedVariables false
set_option linter.unusedSimpArgs false
namespace Go.Sh
open Go

/-! ## The words of the functions that come out -/
namespace N
variable {R α : Type}
def cond (b : Bool) (x y : Option R) : Option R := if b = true then x else y
def ite (c : Prop) [Decidable c] (x y : Option R) : Option R := if c then x else y
def bind {β : Type} (x : Option β) (f : β → Option R) : Option R := x.bind f
def join {β : Type} (x : Option (β ⊕ R)) (f : β → Option R) : Option R := x.bind fun r => match r with | .inl x => f x | .inr r => some r
def rd (xs : List α) (i : Int) (d : α) : α := xs.getD i.toNat d
def len (xs : List α) : Int := xs.length
def set (xs : List α) (i : Int) (v : α) : List α := xs.set i.toNat v
def app (xs ys : List α) : List α := xs ++ ys
def cut (xs : List α) (lo hi : Int) : List α := (xs.take hi.toNat).drop lo.toNat
def rep (n : Int) (x : α) : List α := List.replicate n.toNat x
def fits (xs ys : List α) (bytes : Nat) : Prop := (xs.length + ys.length) * bytes ≤ 140737488355328
instance (xs ys : List α) (bytes : Nat) : Decidable (fits xs ys bytes) := inferInstanceAs (Decidable (_ ≤ _))
def room (n : Int) (bytes : Nat) : Prop := n * bytes ≤ 140737488355328
instance (n : Int) (bytes : Nat) : Decidable (room n bytes) := inferInstanceAs (Decidable (_ ≤ _))
def add (k : IntKind) (a b : Int) : Int := k.wrap (a + b)
def sub (k : IntKind) (a b : Int) : Int := k.wrap (a - b)
def mul (k : IntKind) (a b : Int) : Int := k.wrap (a * b)
def quo (k : IntKind) (a b : Int) : Int := k.wrap (a.tdiv b)
def rem (a b : Int) : Int := a.tmod b
def and (k : IntKind) (a b : Int) : Int := k.wrap (BitVec.ofInt k.bits a &&& BitVec.ofInt k.bits b).toNat
def or (k : IntKind) (a b : Int) : Int := k.wrap (BitVec.ofInt k.bits a ||| BitVec.ofInt k.bits b).toNat
def xor (k : IntKind) (a b : Int) : Int := k.wrap (BitVec.ofInt k.bits a ^^^ BitVec.ofInt k.bits b).toNat
def andNot (k : IntKind) (a b : Int) : Int := k.wrap (BitVec.ofInt k.bits a &&& ~~~BitVec.ofInt k.bits b).toNat
def shl (k : IntKind) (a b : Int) : Int := k.wrap (a * 2 ^ (Nat.min b.toNat k.bits))
def shr (k : IntKind) (a b : Int) : Int := a.fdiv (2 ^ (Nat.min b.toNat k.bits))
def conv (k : IntKind) (a : Int) : Int := k.wrap a
def eq (a b : Int) : Bool := a == b
def ne (a b : Int) : Bool := a != b
def lt (a b : Int) : Bool := decide (a < b)
def le (a b : Int) : Bool := decide (a ≤ b)
def gt (a b : Int) : Bool := decide (a > b)
def ge (a b : Int) : Bool := decide (a ≥ b)
def eqB (a b : Bool) : Bool := a == b
def neB (a b : Bool) : Bool := !(a == b)
def not (a : Bool) : Bool := !a
def both (a b : Bool) : Bool := a && b
def eqS (a b : ByteArray) : Bool := a.toList == b.toList
def neS (a b : ByteArray) : Bool := !(a.toList == b.toList)
def eqS' (a b : ByteArray) : Bool := a == b
def cat (a b : ByteArray) : ByteArray := a ++ b
def slen (s : ByteArray) : Int := s.size
def scut (s : ByteArray) (lo hi : Int) : ByteArray := s.extract lo.toNat hi.toNat
def bt (s : ByteArray) (i : Int) : Int := ((s[i.toNat]?).map (fun b => (b.toNat : Int))).getD 0
def bytesOf (s : ByteArray) : List Int := s.data.toList.map fun b => (b.toNat : Int)
def min (a b : Int) : Int := if b < a then b else a
def max (a b : Int) : Int := if b > a then b else a
def diff (a b : Int) : Int := a - b
def plus (a b : Int) : Int := a + b
open Classical in
noncomputable def nilc (e : Bool) (x y : Option R) : Option R := if e = true then (if x = y then x else none) else y
def isE (xs : List α) : Bool := xs.isEmpty
def sorted (xs : List Int) : List Int := xs.mergeSort fun x y => decide (x ≤ y)
def ofBytes (ys : List Int) : ByteArray := ys.foldl (fun r n => r.push (UInt8.ofNat n.toNat)) ByteArray.empty
def cpy (xs : List α) (lo n : Int) (ys : List α) : List α := xs.take lo.toNat ++ (ys.take n.toNat ++ xs.drop (lo.toNat + (ys.take n.toNat).length))
def catFits (a b : ByteArray) : Prop := a.size + b.size ≤ 9223372036854775807
instance (a b : ByteArray) : Decidable (catFits a b) := inferInstanceAs (Decidable (_ ≤ _))
end N

/-! ## Shapes of data -/
inductive Ty where
  | int (k : IntKind) | bool | str
  | pair (a b : Ty)
  | slice (E : TypeId) (e : Ty)
  deriving DecidableEq

@[reducible] def Ty.den : Ty → Type
  | .int _ => Int
  | .bool => Bool
  | .str => ByteArray
  | .pair a b => a.den × b.den
  | .slice _ e => List e.den

def Ty.dflt : (t : Ty) → t.den
  | .int _ => (0 : Int)
  | .bool => false
  | .str => ByteArray.empty
  | .pair a b => (a.dflt, b.dflt)
  | .slice _ _ => []

def Ty.size : Ty → Nat
  | .pair a b => a.size + b.size
  | _ => 1

def Ty.flat : Ty → Bool
  | .pair a b => a.flat && b.flat
  | .slice _ _ => false
  | _ => true

/-! ## Symbolic values -/
/-- a captured variable -/
inductive Cap where
  | ptr (n : Nat)
  | cptr (t : Ty) (x : t.den)

/-- a value of one cell -/
inductive LV where
  | int (k : IntKind) (n : Int) | bool (b : Bool) | str (s : ByteArray)
  | nil                                              -- a slice of no elements and no room
  | sl (E : TypeId) (e : Ty) (xs : List e.den)       -- a slice whose memory stays as it is
  | ref (n : Nat)                                    -- the whole of row n
  | sub (n : Nat) (lo hi : Int)                      -- elements lo to hi of row n
  | dsl (n ver : Nat) (i : Int) (off : Nat) (E : TypeId) (e : Ty) (xs : List e.den)   -- a slice inside row n
  | ptr (n off : Nat)                                -- into box n
  | vptr (n : Nat) (i : Int) (off : Nat)             -- into element i of row n
  | cptr (t : Ty) (x : t.den) (off : Nat)            -- into memory that stays as it is
  | fn (f : FuncId) (caps : List Cap)
  | isnil (e : Bool)                                 -- a bool that may be true only if e

inductive SV where
  | top | undef
  | lf (v : LV)
  | agg (cs : List LV)
  | tup (vs : List (Bool × List LV))

inductive Ob where
  | box (cells : List LV)
  | vec (E : TypeId) (e : Ty) (deep : Bool) (ver : Nat) (xs : List e.den)
  | fro (E : TypeId) (e : Ty) (xs : List e.den)

/-- what is known of a Go type -/
structure TI where
  size : Nat
  bytes : Nat
  agg : Bool
  ty : Option Ty
  fields : List (Nat × TypeId) := []
  elem : Option TypeId := none
  eq : Bool := false

/-- a zero value's cells -/
def Ty.zero : Ty → List LV
  | .int k => [.int k 0]
  | .bool => [.bool false]
  | .str => [.str ByteArray.empty]
  | .pair a b => a.zero ++ b.zero
  | .slice _ _ => [.nil]

/-! ## Cells of a native value, and back -/
def Ty.sv : (t : Ty) → t.den → List LV
  | .int k, x => [.int k x]
  | .bool, x => [.bool x]
  | .str, x => [.str x]
  | .pair a b, x => a.sv x.1 ++ b.sv x.2
  | .slice E e, x => [.sl E e x]

/-- the cells of an element of a row whose inner rows are the row's own -/
def Ty.svD (n ver : Nat) (i : Int) : Nat → (t : Ty) → t.den → List LV
  | _, .int k, x => [.int k x]
  | _, .bool, x => [.bool x]
  | _, .str, x => [.str x]
  | o, .pair a b, x => a.svD n ver i o x.1 ++ b.svD n ver i (o + a.size) x.2
  | o, .slice E e, x => [.dsl n ver i o E e x]

abbrev Heap := Nat → Option Ob
abbrev Upd := List (Nat × Option Ob)

def Heap.upd (H : Heap) : Upd → Heap
  | [] => H
  | (n, o) :: u => Heap.upd (fun m => if m = n then o else H m) u

def castL {e e' : Ty} (h : e = e') (xs : List e.den) : List e'.den := h ▸ xs

/-- the elements of a slice of the type E, e -/
def asRows (E : TypeId) (e : Ty) (E' : TypeId) (e' : Ty) (xs : List e'.den) : Option (List e.den) :=
  if h : e' = e then (if E' = E then some (castL h xs) else none) else none

def Ob.rows (E : TypeId) (e : Ty) : Ob → Option (List e.den)
  | .vec E' e' _ _ xs => asRows E e E' e' xs
  | .fro E' e' xs => asRows E e E' e' xs
  | .box _ => none

/-- what a slice reads as, now -/
def LV.rows (H : Heap) (E : TypeId) (e : Ty) : LV → Option (List e.den)
  | .nil => some []
  | .sl E' e' xs => asRows E e E' e' xs
  | .ref n => match H n with
    | some o => o.rows E e
    | none => none
  | .sub n lo hi => match H n with
    | some o => match o.rows E e with
      | some xs => some (N.cut xs lo hi)
      | none => none
    | none => none
  | .dsl n ver _ _ E' e' xs => match H n with
    | some (.vec _ _ _ ver' _) => if ver = ver' then asRows E e E' e' xs else none
    | _ => none
  | _ => none

/-- a native value out of cells, read where they stand -/
def Ty.get (H : Heap) : (t : Ty) → List LV → Option (t.den × List LV)
  | .int k, .int k' x :: r => if k = k' then some (x, r) else none
  | .bool, .bool x :: r => some (x, r)
  | .str, .str x :: r => some (x, r)
  | .pair a b, cs => match a.get H cs with
    | some (x, r) => match b.get H r with
      | some (y, r) => some ((x, y), r)
      | none => none
    | none => none
  | .slice E e, c :: r => match c.rows H E e with
    | some xs => some (xs, r)
    | none => none
  | _, _ => none

/-- a slice that is to be kept: its row is given up ('deep') or frozen -/
def LV.take (H : Heap) (wr : Nat → Bool) (deep : Bool) (E : TypeId) (e : Ty) : LV → Option (List e.den × Upd)
  | .nil => some ([], [])
  | .sl E' e' xs => if deep then none else match asRows E e E' e' xs with
    | some xs => some (xs, [])
    | none => none
  | .ref n => match H n with
    | some (.vec E' e' d _ xs) => match asRows E e E' e' xs with
      | some ys => if wr n then (if deep then (if d || e.flat then some (ys, [(n, none)]) else none) else some (ys, [(n, some (.fro E' e' xs))])) else none
      | none => none
    | some (.fro E' e' xs) => if deep then none else match asRows E e E' e' xs with
      | some xs => some (xs, [])
      | none => none
    | _ => none
  | .sub n lo hi => match H n with
    | some (.vec E' e' _ _ xs) => if deep then none else if wr n then (match asRows E e E' e' xs with
      | some ys => some (N.cut ys lo hi, [(n, some (.fro E' e' xs))])
      | none => none) else none
    | some (.fro E' e' xs) => if deep then none else match asRows E e E' e' xs with
      | some xs => some (N.cut xs lo hi, [])
      | none => none
    | _ => none
  | .dsl n ver _ _ E' e' ys => match H n with
    | some (.vec T t _ ver' xs) => if deep then none else if wr n then (if ver = ver' then (match asRows E e E' e' ys with
      | some zs => some (zs, [(n, some (.fro T t xs))])
      | none => none) else none) else none
    | _ => none
  | _ => none

/-- a native value out of cells, to be kept -/
def Ty.take (H : Heap) (wr : Nat → Bool) (deep : Bool) : (t : Ty) → List LV → Option (t.den × List LV × Upd)
  | .int k, .int k' x :: r => if k = k' then some (x, r, []) else none
  | .bool, .bool x :: r => some (x, r, [])
  | .str, .str x :: r => some (x, r, [])
  | .pair a b, cs => match a.take H wr deep cs with
    | some (x, r, u) => match b.take H wr deep r with
      | some (y, r, u') => some ((x, y), r, u ++ u')
      | none => none
    | none => none
  | .slice E e, c :: r => match c.take H wr deep E e with
    | some (xs, u) => some (xs, r, u)
    | none => none
  | _, _ => none

/-! ## Signatures -/
inductive PTy where
  | val (agg : Bool) (ty : Ty)
  | cptr (ty : Ty)
  | io (E : TypeId) (e : Ty)
  | ioptr (ty : Ty)
  | fn (f : FuncId) (caps : List Ty)

inductive RTy where
  | val (agg : Bool) (ty : Ty)
  | row (E : TypeId) (e : Ty) (deep : Bool)
  | ptr (ty : Ty)                             -- a pointer to a new box

@[reducible] def Tup : List Type → Type
  | [] => Unit
  | [a] => a
  | a :: b :: l => a × Tup (b :: l)

@[reducible] def PTy.den : PTy → Type
  | .val _ t | .cptr t | .ioptr t => t.den
  | .io _ e => List e.den
  | .fn _ caps => Tup (caps.map Ty.den)

@[reducible] def RTy.den : RTy → Type
  | .val _ t => t.den
  | .row _ e _ => List e.den
  | .ptr t => t.den

/-- what is written in place -/
@[reducible] def ioTys : List PTy → List Type
  | [] => []
  | .io _ e :: ps => List e.den :: ioTys ps
  | .ioptr t :: ps => t.den :: ioTys ps
  | .val _ _ :: ps => ioTys ps
  | .cptr _ :: ps => ioTys ps
  | .fn _ _ :: ps => ioTys ps

structure Sig where
  params : List PTy
  res : List RTy
  groups : List (Option Nat) := []            -- how the parameters are made of leaves: 'some n' is a struct of the next n
  rgroups : List (Option Nat) := []           -- how the results are made of leaves, likewise

@[reducible] def Sig.args (s : Sig) : Type := Tup (s.params.map PTy.den)
/-- what comes back: the results, then what is written in place -/
@[reducible] def Sig.outs (s : Sig) : Type := Tup (s.res.map RTy.den ++ ioTys s.params)

structure Entry where
  sig : Sig
  F : sig.args → Option sig.outs

def Tup.cons {a : Type} : {l : List Type} → a → Tup l → Tup (a :: l)
  | [], x, _ => x
  | _ :: _, x, r => (x, r)

def Tup.hd {a : Type} : {l : List Type} → Tup (a :: l) → a
  | [], x => x
  | _ :: _, x => x.1

def Tup.tl {a : Type} : {l : List Type} → Tup (a :: l) → Tup l
  | [], _ => ()
  | _ :: _, x => x.2

/-! ## Signatures of loops -/
inductive LT where
  | int (k : IntKind) | bool | str
  | ro (E : TypeId) (e : Ty)
  | own (E : TypeId) (e : Ty) (deep : Bool)

inductive LI where
  | slot (t : Tmp) (l : LT)
  | box (t : Tmp) (cells : List LT)      -- slot t points to a box of these cells
  | vec (t : Tmp) (E : TypeId) (e : Ty) (deep : Bool)   -- slot t holds a row that is written in place

@[reducible] def LT.den : LT → Type
  | .int _ => Int | .bool => Bool | .str => ByteArray
  | .ro _ e => List e.den
  | .own _ e _ => List e.den

@[reducible] def LI.den : LI → Type
  | .slot _ l => l.den
  | .box _ cs => Tup (cs.map LT.den)
  | .vec _ _ e _ => List e.den

@[reducible] def LS (s : List LI) : Type := Tup (s.map LI.den)

structure Env where
  ti : TypeId → Option TI
  Γ : FuncId → List FuncId → Option Entry
  loop : Nat → Option (List LI)          -- by the number of the block around it
  cut : Nat → Option (List LI)           -- what is known behind a branching, by the temporary that it asks
  cutb : Nat → Option (List LI) := fun _ => none   -- what is known behind a block
  deep : Tmp → Bool                      -- rows made deep, by the temporary of the operation
  nio : Nat := 0                         -- how many rows and boxes came in to be written

structure St where
  tmps : Nat → SV
  H : Heap
  wr : Nat → Bool
  nx : Nat

def putT (tm : Nat → SV) (d : Option Tmp) (v : SV) : Nat → SV :=
  match d with
  | some d => fun t => if t = d then v else tm t
  | none => tm

def constSV : Value → SV
  | .int k n => .lf (.int k n)
  | .bool b => .lf (.bool b)
  | .string s => .lf (.str s)
  | .slice none 0 0 => .lf .nil
  | _ => .top

def opSV (tm : Nat → SV) : Operand → SV
  | .tmp t => tm t
  | .const v => constSV v
  | .func f => .lf (.fn f [])
  | .global _ => .top

def SV.cells : SV → Option (List LV)
  | .agg cs => some cs
  | .lf v => some [v]
  | _ => none

def pack : Bool → List LV → SV
  | true, cs => .agg cs
  | false, [c] => .lf c
  | false, _ => .top

section
variable {R : Type}

def binI (op : BinOp) (k : IntKind) (a b : Int) (K : SV → Option R) : Option R :=
  match op with
  | .add => K (.lf (.int k (N.add k a b)))
  | .sub => K (.lf (.int k (N.sub k a b)))
  | .mul => K (.lf (.int k (N.mul k a b)))
  | .quo => N.ite (b = 0) none (K (.lf (.int k (N.quo k a b))))
  | .rem => N.ite (b = 0) none (K (.lf (.int k (N.rem a b))))
  | .and => K (.lf (.int k (N.and k a b)))
  | .or => K (.lf (.int k (N.or k a b)))
  | .xor => K (.lf (.int k (N.xor k a b)))
  | .andNot => K (.lf (.int k (N.andNot k a b)))
  | .eql => K (.lf (.bool (N.eq a b)))
  | .neq => K (.lf (.bool (N.ne a b)))
  | .lss => K (.lf (.bool (N.lt a b)))
  | .leq => K (.lf (.bool (N.le a b)))
  | .gtr => K (.lf (.bool (N.gt a b)))
  | .geq => K (.lf (.bool (N.ge a b)))
  | _ => none

def shI (op : BinOp) (k : IntKind) (a b : Int) (K : SV → Option R) : Option R :=
  N.ite (b < 0) none (match op with
  | .shl => K (.lf (.int k (N.shl k a b)))
  | .shr => K (.lf (.int k (N.shr k a b)))
  | _ => none)

def binS (op : BinOp) (a b : ByteArray) (K : SV → Option R) : Option R :=
  match op with
  | .add => N.ite (N.catFits a b) (K (.lf (.str (N.cat a b)))) none
  | .eql => K (.lf (.bool (N.eqS a b)))
  | .neq => K (.lf (.bool (N.neS a b)))
  | _ => none

/-- one cell held against another -/
def eqCell : LV → LV → Option Bool
  | .int k a, .int k' b => if k = k' then some (N.eq a b) else none
  | .bool a, .bool b => some (N.eqB a b)
  | .str a, .str b => some (N.eqS' a b)
  | _, _ => none

/-- structs of numbers, bools and strings, held against each other -/
def eqCells : List LV → List LV → Option Bool
  | [a], [b] => eqCell a b
  | a :: x, b :: y => match eqCell a b with
    | some p => match eqCells x y with
      | some q => some (N.both p q)
      | none => none
    | none => none
  | _, _ => none

def binSV (ti : TI) (op : BinOp) (x y : SV) (K : SV → Option R) : Option R :=
  match x, y with
  | .lf (.int k a), .lf (.int k' b) => match op with
    | .shl => shI .shl k a b K
    | .shr => shI .shr k a b K
    | _ => if k = k' then binI op k a b K else none
  | .lf (.bool a), .lf (.bool b) => if ti.ty = some .bool then match op with
      | .eql => K (.lf (.bool (N.eqB a b)))
      | .neq => K (.lf (.bool (N.neB a b)))
      | _ => none
    else none
  | .lf (.str a), .lf (.str b) => binS op a b K
  | _, _ => none

/-- are these cells of the kinds that the zero value has? -/
def kindsOk : List LV → List LV → Bool
  | [], [] => true
  | .int k _ :: z, .int k' _ :: r => k == k' && kindsOk z r
  | .bool _ :: z, .bool _ :: r => kindsOk z r
  | .str _ :: z, .str _ :: r => kindsOk z r
  | _, _ => false

/-- '==' and '!=' of structs -/
def binAgg (ti : TI) (op : BinOp) (x y : SV) (K : SV → Option R) : Option R :=
  match x, y, ti.ty with
  | .agg a, .agg b, some ty => if kindsOk ty.zero a && kindsOk ty.zero b then (match op with
    | .eql => match eqCells a b with | some r => K (.lf (.bool r)) | none => none
    | .neq => match eqCells a b with | some r => K (.lf (.bool (N.not r))) | none => none
    | _ => none) else none
  | _, _, _ => none

def unSV (op : UnOp) (x : SV) (K : SV → Option R) : Option R :=
  match op, x with
  | .not, .lf (.bool b) => K (.lf (.bool (N.not b)))
  | .neg, .lf (.int k n) => K (.lf (.int k (N.sub k 0 n)))
  | _, _ => none

def convSV (dst : TI) (x : SV) (K : SV → Option R) : Option R :=
  match dst.agg, dst.ty, x with
  | false, some (.int k), .lf (.int _ n) => K (.lf (.int k (N.conv k n)))
  | false, some .str, .lf (.str s) => K (.lf (.str s))
  | _, _, _ => none

/-- cells [o, o + n) -/
def span (cs : List LV) (o n : Nat) : List LV := (cs.drop o).take n
def splice (cs : List LV) (o : Nat) (vs : List LV) : List LV := cs.take o ++ vs ++ cs.drop (o + vs.length)

def elemCells (n ver : Nat) (i : Int) (e : Ty) (deep : Bool) (x : e.den) : List LV := if deep && !e.flat then e.svD n ver i 0 x else e.sv x

def loadSV (E : Env) (H : Heap) (t : TypeId) (a : SV) (K : SV → Option R) : Option R :=
  match E.ti t with
  | none => none
  | some ti => match a with
    | .lf (.ptr n o) => match H n with
      | some (.box cs) => if o + ti.size ≤ cs.length then K (pack ti.agg (span cs o ti.size)) else none
      | _ => none
    | .lf (.vptr n i o) => match H n with
      | some (.vec _ e d ver xs) => if o + ti.size ≤ e.size then K (pack ti.agg (span (elemCells n ver i e d (N.rd xs i e.dflt)) o ti.size)) else none
      | _ => none
    | .lf (.cptr t x o) => if o + ti.size ≤ t.size then K (pack ti.agg (span (t.sv x) o ti.size)) else none
    | _ => none

/-- an element's new cells as a native value: those that are written, the others as they were -/
def Ty.put (H : Heap) (wr : Nat → Bool) (deep : Bool) : (t : Ty) → (x : t.den) → (o : Nat) → (lo : Nat) → (vs : List LV) → Option (t.den × Upd)
  | .pair a b, x, o, lo, vs => match a.put H wr deep x.1 o lo vs with
    | some (p, u) => match b.put H wr deep x.2 (o + a.size) lo vs with
      | some (q, u') => some ((p, q), u ++ u')
      | none => none
    | none => none
  | t, x, o, lo, vs => if lo ≤ o && o < lo + vs.length then
      (match t.take H wr deep (span vs (o - lo) 1) with
      | some (y, [], u) => some (y, u)
      | _ => none)
    else some (x, [])

/-- are the rows that are given up all different, and others than row n? -/
def okUpd (n : Nat) : Upd → Bool
  | [] => true
  | (m, _) :: r => m != n && !(r.any fun p => p.1 == m) && okUpd n r

/-- rows that may be given away: none that came in -/
def tk (E : Env) (wr : Nat → Bool) (n : Nat) : Bool := wr n && decide (E.nio ≤ n)

def storeSV (E : Env) (H : Heap) (wr : Nat → Bool) (t : TypeId) (a v : SV) (K : Upd → Option R) : Option R :=
  match E.ti t, v.cells with
  | some ti, some vs => if vs.length = ti.size then
    match a with
    | .lf (.ptr n o) => match H n with
      | some (.box cs) => if wr n && decide (o + ti.size ≤ cs.length) then K [(n, some (.box (splice cs o vs)))] else none
      | _ => none
    | .lf (.vptr n i o) => match H n with
      | some (.vec T e d ver xs) => if wr n && decide (o + ti.size ≤ e.size) then
          (match e.put H (tk E wr) (d && !e.flat) (N.rd xs i e.dflt) 0 o vs with
          | some (y, u) => if okUpd n u then K (u ++ [(n, some (.vec T e d (ver + 1) (N.set xs i y)))]) else none
          | none => none) else none
      | _ => none
    | _ => none
    else none
  | _, _ => none

def fieldOf (E : Env) (t : TypeId) (f : Nat) : Option (Nat × TI) :=
  match E.ti t with
  | none => none
  | some ti => match ti.fields[f]? with
    | none => none
    | some (o, ft) => match E.ti ft with
      | none => none
      | some fi => if fi.size = 0 then none else some (o, fi)

def fieldAddrSV (E : Env) (t : TypeId) (x : SV) (f : Nat) (K : SV → Option R) : Option R :=
  match fieldOf E t f with
  | none => none
  | some (o, _) => match x with
    | .lf (.ptr n p) => K (.lf (.ptr n (p + o)))
    | .lf (.vptr n i p) => K (.lf (.vptr n i (p + o)))
    | .lf (.cptr t x p) => K (.lf (.cptr t x (p + o)))
    | _ => none

def fieldSV (E : Env) (t : TypeId) (x : SV) (f : Nat) (K : SV → Option R) : Option R :=
  match fieldOf E t f with
  | none => none
  | some (o, fi) => match x with
    | .agg cs => if o + fi.size ≤ cs.length then K (pack fi.agg (span cs o fi.size)) else none
    | _ => none

def Ob.len : Ob → Option Int
  | .vec _ _ _ _ xs => some (N.len xs)
  | .fro _ _ xs => some (N.len xs)
  | .box _ => none

def lenSV (H : Heap) (x : SV) (K : Int → Option R) : Option R :=
  match x with
  | .lf (.str s) => K (N.slen s)
  | .lf .nil => K 0
  | .lf (.sl _ _ xs) => K (N.len xs)
  | .lf (.ref n) => match H n with
    | some o => match o.len with
      | some n => K n
      | none => none
    | none => none
  | .lf (.sub _ lo hi) => K (N.diff hi lo)
  | .lf (.dsl _ _ _ _ _ _ xs) => K (N.len xs)
  | _ => none

def elemOf (E : Env) (t : TypeId) : Option (TypeId × TI × Ty) :=
  match E.ti t with
  | some ti => match ti.elem with
    | some el => match E.ti el with
      | some ei => match ei.ty with
        | some e => if ei.bytes = 0 then none else some (el, ei, e)
        | none => none
      | none => none
    | none => none
  | none => none

/-- is it a row of elements of just this type? -/
def Ob.isRow (E : TypeId) (e : Ty) : Ob → Bool
  | .vec E' e' _ _ _ => E' == E && e' == e
  | .fro E' e' _ => E' == E && e' == e
  | .box _ => false

def indexAddrSV (E : Env) (H : Heap) (t : TypeId) (x i : SV) (K : SV → Option R) : Option R :=
  match elemOf E t, i with
  | some (el, _, e), .lf (.int _ i) => match x with
    | .lf (.sl E' e' xs) => if E' = el ∧ e' = e then N.ite (0 ≤ i) (N.ite (i < N.len xs) (K (.lf (.cptr e' (N.rd xs i e'.dflt) 0))) none) none else none
    | .lf (.ref n) => match H n with
      | some (.vec E' e' _ _ xs) => if E' = el ∧ e' = e then N.ite (0 ≤ i) (N.ite (i < N.len xs) (K (.lf (.vptr n i 0))) none) none else none
      | some (.fro E' e' xs) => if E' = el ∧ e' = e then N.ite (0 ≤ i) (N.ite (i < N.len xs) (K (.lf (.cptr e' (N.rd xs i e'.dflt) 0))) none) none else none
      | _ => none
    | .lf (.sub n lo hi) => match H n with
      | some (.vec E' e' _ _ _) => if E' = el ∧ e' = e then N.ite (0 ≤ i) (N.ite (i < N.diff hi lo) (K (.lf (.vptr n (N.plus lo i) 0))) none) none else none
      | some (.fro E' e' xs) => if E' = el ∧ e' = e then N.ite (0 ≤ i) (N.ite (i < N.diff hi lo) (K (.lf (.cptr e' (N.rd xs (N.plus lo i) e'.dflt) 0))) none) none else none
      | _ => none
    | _ => none
  | _, _ => none

def indexSV (x i : SV) (K : SV → Option R) : Option R :=
  match x, i with
  | .lf (.str s), .lf (.int _ i) => N.ite (0 ≤ i) (N.ite (i < N.slen s) (K (.lf (.int .u8 (N.bt s i)))) none) none
  | _, _ => none

def boundSV : Option SV → Option (Option Int)
  | none => some none
  | some (.lf (.int _ i)) => some (some i)
  | some _ => none

def in3 (l h n : Int) (x : Option R) : Option R := N.ite (0 ≤ l) (N.ite (l ≤ h) (N.ite (h ≤ n) x none) none) none

def sliceStr (s : ByteArray) (lo hi : Option Int) (K : SV → Option R) : Option R :=
  in3 (lo.getD 0) (hi.getD (N.slen s)) (N.slen s) (K (.lf (.str (N.scut s (lo.getD 0) (hi.getD (N.slen s))))))

def sliceSV (E : Env) (H : Heap) (t : TypeId) (x : SV) (lo hi : Option Int) (K : SV → Option R) : Option R :=
  match elemOf E t with
  | some (el, _, e) => match x with
    | .lf .nil => N.ite (lo.getD 0 = 0) (N.ite (hi.getD 0 = 0) (K (.lf .nil)) none) none
    | .lf (.sl T e' xs) => if T = el ∧ e' = e then in3 (lo.getD 0) (hi.getD (N.len xs)) (N.len xs) (K (.lf (.sl T e' (N.cut xs (lo.getD 0) (hi.getD (N.len xs)))))) else none
    | .lf (.ref n) => match H n with
      | some o => if o.isRow el e then match o.len with
          | some m => in3 (lo.getD 0) (hi.getD m) m (K (.lf (.sub n (lo.getD 0) (hi.getD m))))
          | none => none
        else none
      | _ => none
    | .lf (.sub n a b) => match H n with
      | some o => if o.isRow el e then in3 (lo.getD 0) (hi.getD (N.diff b a)) (N.diff b a) (K (.lf (.sub n (N.plus a (lo.getD 0)) (N.plus a (hi.getD (N.diff b a)))))) else none
      | none => none
    | _ => none
  | none => none

/-- 's[:0:0]' -/
def sliceNone (x : SV) (lo hi mx : Option SV) (K : SV → Option R) : Option R :=
  match lo, hi, mx with
  | none, some (.lf (.int _ 0)), some (.lf (.int _ 0)) => match x with
    | .lf .nil | .lf (.sl ..) | .lf (.ref _) | .lf (.sub ..) | .lf (.dsl ..) => K (.lf .nil)
    | _ => none
  | _, _, _ => none

def deepAt (E : Env) (d : Option Tmp) : Bool := match d with | some d => E.deep d | none => false

def makeSV (E : Env) (d : Option Tmp) (t : TypeId) (n : SV) (nx : Nat) (K : SV → Upd → Nat → Option R) : Option R :=
  match elemOf E t, n with
  | some (el, ei, e), .lf (.int .i64 n) => N.ite (0 ≤ n) (N.ite (N.room n ei.bytes)
      (K (.lf (.ref nx)) [(nx, some (.vec el e (deepAt E d) 0 (N.rep n e.dflt)))] (nx + 1)) none) none
  | _, _ => none

/-- the elements of a slice literal -/
def partsOf (H : Heap) (wr : Nat → Bool) (e : Ty) (deep : Bool) : List SV → Option (List e.den × Upd)
  | [] => some ([], [])
  | v :: vs => match v.cells with
    | some cs => match e.take H wr deep cs with
      | some (x, [], u) => match partsOf H wr e deep vs with
        | some (xs, u') => some (x :: xs, u ++ u')
        | none => none
      | _ => none
    | none => none

/-- are the parts numbered 0, 1, ..? -/
def inOrder : Nat → List (Nat × Operand) → Bool
  | _, [] => true
  | i, (j, _) :: r => i == j && inOrder (i + 1) r

def buildSliceSV (E : Env) (H : Heap) (wr : Nat → Bool) (d : Option Tmp) (t : TypeId) (n : Nat) (vs : List SV) (nx : Nat) (K : SV → Upd → Nat → Option R) : Option R :=
  match elemOf E t with
  | some (el, ei, e) => if n = vs.length then
      match partsOf H (tk E wr) e (deepAt E d && !e.flat) vs with
      | some (xs, u) => if okUpd nx u && decide (n * ei.size ≤ 16777216) then K (.lf (.ref nx)) (u ++ [(nx, some (.vec el e (deepAt E d) 0 xs))]) (nx + 1) else none
      | none => none
    else none
  | none => none

def buildGo (E : Env) (t : TypeId) : List (Nat × SV) → List LV → Option (List LV)
  | [], cs => some cs
  | (f, v) :: r, cs => match fieldOf E t f, v.cells with
    | some (o, fi), some vs => if vs.length = fi.size ∧ o + fi.size ≤ cs.length then buildGo E t r (splice cs o vs) else none
    | _, _ => none

def buildSV (E : Env) (t : TypeId) (ps : List (Nat × SV)) (K : SV → Option R) : Option R :=
  match E.ti t with
  | some ti => match ti.ty with
    | some ty => if ti.agg && ti.fields.all (fun f => (E.ti f.2).isSome) then match buildGo E t ps ty.zero with
        | some cs => K (.agg cs)
        | none => none
      else none
    | none => none
  | none => none

/-- what an append takes: the elements, and what becomes of their home -/
def srcOf (H : Heap) (wr : Nat → Bool) (E : TypeId) (e : Ty) (deep : Bool) (x : LV) : Option (List e.den × Upd) :=
  if e.flat then (match x.rows H E e with
    | some xs => some (xs, [])
    | none => none)
  else match x with
  | .sub n lo hi => if deep then none else match H n with
    | some (.vec _ _ true _ _) => none
    | _ => match (LV.sub n lo hi).rows H E e with
      | some xs => some (xs, [])
      | none => none
  | .ref n => match H n with
    | some (.vec E' e' false ver xs) => if deep then none else match asRows E e E' e' xs with
      | some xs => some (xs, [])
      | none => none
    | _ => (LV.ref n).take H wr deep E e
  | x => x.take H wr deep E e

def srcDeep (H : Heap) : LV → Bool
  | .ref n => match H n with | some (.vec _ _ d _ _) => d | _ => false
  | _ => false

def appendSV (E : Env) (H : Heap) (wr : Nat → Bool) (t : TypeId) (s x : SV) (nx : Nat) (K : SV → Upd → Nat → Option R) : Option R :=
  match elemOf E t, s, x with
  | some (el, ei, e), .lf s, .lf x => match s with
    | .nil => match srcOf H (tk E wr) el e (srcDeep H x && !e.flat) x with
      | some (ys, u) => if okUpd nx u then N.ite (N.fits [] ys ei.bytes) (K (.lf (.ref nx)) (u ++ [(nx, some (.vec el e (srcDeep H x) 0 ys))]) (nx + 1)) none else none
      | none => none
    | .ref n => match H n with
      | some (.vec E' e' d _ xs) => match asRows el e E' e' xs with
        | some xs => if tk E wr n then
          (match srcOf H (tk E wr) el e (d && !e.flat) x with
          | some (ys, u) => if okUpd n u then N.ite (N.fits xs ys ei.bytes) (K (.lf (.ref nx)) (u ++ [(n, none), (nx, some (.vec el e d 0 (N.app xs ys)))]) (nx + 1)) none else none
          | none => none) else none
        | none => none
      | _ => none
    | .sub n 0 hi => match H n with
      | some (.vec E' e' d _ xs) => match asRows el e E' e' xs with
        | some xs => if tk E wr n && (e.flat || !d) then
          (match srcOf H (tk E wr) el e false x with
          | some (ys, u) => if okUpd n u then N.ite (N.fits (N.cut xs 0 hi) ys ei.bytes) (K (.lf (.ref nx)) (u ++ [(n, none), (nx, some (.vec el e d 0 (N.app (N.cut xs 0 hi) ys)))]) (nx + 1)) none else none
          | none => none) else none
        | none => none
      | _ => none
    | _ => none
  | _, _, _ => none

/-- 'copy' into a row of one-cell elements -/
def copyTo (H : Heap) (wr : Nat → Bool) (el : TypeId) (e : Ty) (n : Nat) (lo : Int) (m : Option Int) (ys : List e.den) (K : SV → Upd → Option R) : Option R :=
  match H n with
  | some (.vec E' e' d ver xs) => match asRows el e E' e' xs with
    | some xs => if wr n then K (.lf (.int .i64 (N.min (m.getD (N.len xs)) (N.len ys)))) [(n, some (.vec el e d (ver + 1) (N.cpy xs lo (m.getD (N.len xs)) ys)))] else none
    | none => none
  | _ => none

def copySV (E : Env) (H : Heap) (wr : Nat → Bool) (t : TypeId) (d s : SV) (K : SV → Upd → Option R) : Option R :=
  match elemOf E t, d, s with
  | some (el, _, e), .lf d, .lf s => if (e.flat && Nat.beq e.size 1) = true then
      (match s.rows H el e with
      | none => none
      | some ys => match d with
        | .ref n => copyTo H wr el e n 0 none ys K
        | .sub n lo hi => copyTo H wr el e n lo (some (N.diff hi lo)) ys K
        | _ => none)
    else none
  | _, _, _ => none

/-- a conversion; bytes to a string -/
def convS (E : Env) (H : Heap) (s : TypeId) (di : TI) (x : SV) (K : SV → Option R) : Option R :=
  match elemOf E s, di.ty, x with
  | some (el, ei, .int .u8), some .str, .lf c => if ei.agg = false ∧ di.agg = false then
      (match c.rows H el (.int .u8) with
      | some ys => K (.lf (.str (N.ofBytes ys)))
      | none => none)
    else none
  | _, _, x => convSV di x K

/-! ## Calls -/
def fnIds : List SV → List FuncId
  | [] => []
  | .lf (.fn f _) :: r => f :: fnIds r
  | _ :: r => fnIds r

def capOf (H : Heap) (t : Ty) : Cap → Option t.den
  | .ptr n => match H n with
    | some (.box cs) => match t.get H cs with
      | some (x, []) => some x
      | _ => none
    | _ => none
  | .cptr t' x => match t.get H (t'.sv x) with
    | some (x, []) => some x
    | _ => none

def capsOf (H : Heap) : (ts : List Ty) → List Cap → Option (Tup (ts.map Ty.den))
  | [], [] => some ()
  | t :: ts, c :: cs => match capOf H t c with
    | some x => match capsOf H ts cs with
      | some r => some (Tup.cons x r)
      | none => none
    | none => none
  | _, _ => none

def LV.cap : LV → Option Cap
  | .ptr n 0 => some (.ptr n)
  | .cptr t x 0 => some (.cptr t x)
  | _ => none

/-- names of rows and boxes among values -/
def LV.names : LV → List Nat
  | .ref n | .sub n _ _ | .dsl n _ _ _ _ _ _ | .ptr n _ | .vptr n _ _ => [n]
  | .fn _ cs => cs.filterMap fun | .ptr n => some n | _ => none
  | _ => []

def SV.names : SV → List Nat
  | .lf v => v.names
  | .agg cs => cs.flatMap LV.names
  | .tup vs => vs.flatMap fun v => v.2.flatMap LV.names
  | _ => []

/-- the rows that a captured variable reads -/
def Cap.reads (H : Heap) : Cap → List Nat
  | .ptr n => n :: (match H n with
    | some (.box cs) => cs.flatMap LV.names
    | _ => [])
  | .cptr _ _ => []

/-- one argument as a native value; what it lends; what it reads -/
def argOf (H : Heap) (wr : Nat → Bool) : (p : PTy) → SV → Option (p.den × List Nat × List Nat)
  | .val true t, .agg cs => match t.get H cs with
    | some (x, []) => some (x, [], cs.flatMap LV.names)
    | _ => none
  | .val false t, .lf c => match t.get H [c] with
    | some (x, []) => some (x, [], c.names)
    | _ => none
  | .cptr t, .lf v => match v.cap with
    | some c => match capOf H t c with
      | some x => some (x, [], c.reads H)
      | none => none
    | none => none
  | .fn f ts, .lf (.fn g cs) => if f = g then
      match capsOf H ts cs with
      | some x => some (x, [], cs.flatMap (Cap.reads H))
      | none => none
    else none
  | .io E e, .lf (.ref n) => match H n with
    | some (.vec E' e' d _ xs) => if wr n && (d || e.flat) then (match asRows E e E' e' xs with | some xs => some (xs, [n], []) | none => none) else none
    | _ => none
  | .ioptr t, .lf (.ptr n 0) => match H n with
    | some (.box cs) => if wr n then match t.get H cs with
        | some (x, []) => some (x, [n], cs.flatMap LV.names)
        | _ => none
      else none
    | _ => none
  | _, _ => none

/-- the arguments as native values -/
def argsOf (H : Heap) (wr : Nat → Bool) : (ps : List PTy) → List SV → Option (Tup (ps.map PTy.den) × List Nat × List Nat)
  | [], [] => some ((), [], [])
  | p :: ps, v :: vs => match argOf H wr p v with
    | some (x, ns, rs) => match argsOf H wr ps vs with
      | some (r, ns', rs') => some (Tup.cons x r, ns ++ ns', rs ++ rs')
      | none => none
    | none => none
  | _, _ => none

/-- the results: values, new rows -/
def resOf (nx : Nat) : (rs : List RTy) → {l : List Type} → Tup (rs.map RTy.den ++ l) → List (Bool × List LV) × List Ob
  | [], _, _ => ([], [])
  | .val agg t :: rs, l, o =>
    let q := resOf nx rs (l := l) (Tup.tl o)
    ((agg, t.sv (Tup.hd (a := t.den) o)) :: q.1, q.2)
  | .row E e d :: rs, l, o =>
    let q := resOf (nx + 1) rs (l := l) (Tup.tl o)
    ((false, [.ref nx]) :: q.1, .vec E e d 0 (Tup.hd (a := List e.den) o) :: q.2)
  | .ptr t :: rs, l, o =>
    let q := resOf (nx + 1) rs (l := l) (Tup.tl o)
    ((false, [.ptr nx 0]) :: q.1, .box (t.sv (Tup.hd (a := t.den) o)) :: q.2)

/-- behind the results -/
def ioOf : (rs : List RTy) → {l : List Type} → Tup (rs.map RTy.den ++ l) → Tup l
  | [], _, o => o
  | _ :: rs, _, o => ioOf rs (Tup.tl o)

/-- what is written in place, at the end -/
def endOf : (ps : List PTy) → Tup (ioTys ps) → List Ob
  | [], _ => []
  | .val _ _ :: ps, o => endOf ps o
  | .cptr _ :: ps, o => endOf ps o
  | .fn _ _ :: ps, o => endOf ps o
  | .io E e :: ps, o => .vec E e true 0 (Tup.hd (a := List e.den) o) :: endOf ps (Tup.tl o)
  | .ioptr t :: ps, o => .box (t.sv (Tup.hd (a := t.den) o)) :: endOf ps (Tup.tl o)

/-- the arguments, and what is written in place -/
def initOf : (nx : Nat) → (ps : List PTy) → Tup (ps.map PTy.den) → List SV × List Ob
  | _, [], _ => ([], [])
  | nx, .val agg t :: ps, a =>
    let q := initOf nx ps (Tup.tl a)
    (pack agg (t.sv (Tup.hd (a := t.den) a)) :: q.1, q.2)
  | nx, .cptr t :: ps, a =>
    let q := initOf nx ps (Tup.tl a)
    (.lf (.cptr t (Tup.hd (a := t.den) a) 0) :: q.1, q.2)
  | nx, .fn f ts :: ps, a =>
    let q := initOf nx ps (Tup.tl a)
    (.lf (.fn f (caps ts (Tup.hd (a := Tup (ts.map Ty.den)) a))) :: q.1, q.2)
  | nx, .io E e :: ps, a =>
    let q := initOf (nx + 1) ps (Tup.tl a)
    (.lf (.ref nx) :: q.1, .vec E e true 0 (Tup.hd (a := List e.den) a) :: q.2)
  | nx, .ioptr t :: ps, a =>
    let q := initOf (nx + 1) ps (Tup.tl a)
    (.lf (.ptr nx 0) :: q.1, .box (t.sv (Tup.hd (a := t.den) a)) :: q.2)
where
  caps : (ts : List Ty) → Tup (ts.map Ty.den) → List Cap
    | [], _ => []
    | t :: ts, x => .cptr t (Tup.hd (a := t.den) x) :: caps ts (Tup.tl x)

/-- a lent row's or box's new content -/
def lendBack (H : Heap) : List Nat → List Ob → Upd
  | n :: ns, o :: os => (n, some (match H n, o with
    | some (.vec _ _ d ver _), .vec E e _ _ xs => .vec E e d (ver + 1) xs
    | _, o => o)) :: lendBack H ns os
  | _, _ => []

def numbered (nx : Nat) : List Ob → Upd
  | [] => []
  | o :: os => (nx, some o) :: numbered (nx + 1) os

def asOne : List (Bool × List LV) → SV
  | [v] => pack v.1 v.2
  | vs => .tup vs

/-- leaves as results -/
def regroupR : List (Option Nat) → List (Bool × List LV) → List (Bool × List LV)
  | [], l => l
  | none :: g, t :: l => t :: regroupR g l
  | some n :: g, l => (true, (l.take n).flatMap (·.2)) :: regroupR g (l.drop n)
  | none :: _, [] => []
def asOneP (g : List (Option Nat)) (l : List (Bool × List LV)) : SV := asOne (regroupR g l)

/-- arguments as leaves -/
def ungroup : List (Option Nat) → List SV → Option (List SV)
  | [], svs => some svs
  | none :: g, s :: svs => match ungroup g svs with | some r => some (s :: r) | none => none
  | some n :: g, .agg cs :: svs => if cs.length = n then (match ungroup g svs with | some r => some (cs.map .lf ++ r) | none => none) else none
  | _, _ => none

def SV.leaf : SV → LV
  | .lf c => c
  | _ => .nil
def SV.isLeaf : SV → Bool
  | .lf _ => true
  | _ => false

/-- leaves as arguments -/
def regroup : List (Option Nat) → List SV → List SV
  | [], svs => svs
  | none :: g, s :: svs => s :: regroup g svs
  | some n :: g, svs => .agg ((svs.take n).map SV.leaf) :: regroup g (svs.drop n)
  | none :: _, [] => []

def leavesOk : List (Option Nat) → List SV → Bool
  | [], _ => true
  | none :: g, _ :: l => leavesOk g l
  | none :: _, [] => false
  | some n :: g, l => Nat.ble n l.length && (l.take n).all SV.isLeaf && leavesOk g (l.drop n)

def distinct : List Nat → Bool
  | [] => true
  | n :: r => !r.contains n && distinct r

/-- may what comes back share memory with the arguments? -/
def shares (rs : List RTy) (ps : List PTy) : Bool :=
  rs.any (fun | .val _ t => !t.flat | .row _ e d => !(d || e.flat) | .ptr t => !t.flat) || ps.any (fun | .ioptr t => !t.flat | _ => false)

/-- rows that are kept from now on -/
def frz (wr : Nat → Bool) : Heap → List Nat → Upd
  | _, [] => []
  | H, n :: r => match H n with
    | some (.vec E e _ _ xs) => if wr n then (n, some (.fro E e xs)) :: frz wr (fun m => if m = n then some (.fro E e xs) else H m) r else frz wr H r
    | _ => frz wr H r

def isFro (H : Heap) (n : Nat) : Bool := match H n with
  | some (.fro _ _ _) => true
  | _ => false

def callCore (E : Env) (H : Heap) (wr : Nat → Bool) (en : Entry) (fargs : List SV) (nx : Nat) (K : SV → Upd → Nat → Option R) : Option R :=
  match argsOf H wr en.sig.params fargs with
  | none => none
  | some (a, ns, rs) => if leavesOk en.sig.groups (initOf 0 en.sig.params a).1 && distinct ns && ns.all (fun n => !rs.contains n) && (!shares en.sig.res en.sig.params || rs.all (isFro H)) && (ns.all (fun n => decide (E.nio ≤ n)) || ns.all (fun n => decide (n < E.nio))) then
      N.bind (en.F a) fun out =>
        let r := resOf nx en.sig.res out
        K (asOneP en.sig.rgroups r.1) (lendBack H ns (endOf en.sig.params (ioOf en.sig.res out)) ++ numbered nx r.2) (nx + r.2.length)
    else none

/-- the slice at a place of an element -/
def Ty.getS (E : TypeId) (e : Ty) (off : Nat) : (t : Ty) → t.den → Nat → Option (List e.den)
  | .pair a b, x, o => if off < o + a.size then Ty.getS E e off a x.1 o else Ty.getS E e off b x.2 (o + a.size)
  | .slice E' e', x, o => if o = off then asRows E e E' e' x else none
  | _, _, _ => none

/-- an element with another slice at that place -/
def Ty.setS (E : TypeId) (e : Ty) (ys : List e.den) (off : Nat) : (t : Ty) → t.den → Nat → Option t.den
  | .pair a b, x, o => if off < o + a.size then (match Ty.setS E e ys off a x.1 o with | some p => some (p, x.2) | none => none)
    else (match Ty.setS E e ys off b x.2 (o + a.size) with | some q => some (x.1, q) | none => none)
  | .slice E' e', _, o => if o = off then asRows E' e' E e ys else none
  | _, _, _ => none

structure Dsl where
  n : Nat
  ver : Nat
  i : Int
  off : Nat
  E : TypeId
  e : Ty

/-- the first argument that is a slice inside a row -/
def dslIn : List SV → Option Dsl
  | [] => none
  | .lf (.dsl n ver i off E e _) :: _ => some ⟨n, ver, i, off, E, e⟩
  | _ :: r => dslIn r
/-- it as a row by itself -/
def dslOut : List SV → List SV
  | [] => []
  | .lf (.dsl _ _ _ _ _ _ _) :: r => .lf (.ref 0) :: r
  | x :: r => x :: dslOut r
/-- the others have no names -/
def dslAlone : List SV → Bool
  | [] => false
  | .lf (.dsl _ _ _ _ _ _ _) :: r => r.all fun x => x.names.isEmpty
  | x :: r => x.names.isEmpty && dslAlone r

def LV.plain : LV → Bool
  | .int _ _ | .bool _ | .str _ => true
  | _ => false
def SV.plain : SV → Bool
  | .lf c => c.plain
  | .agg cs => cs.all LV.plain
  | .tup vs => vs.all fun v => v.2.all LV.plain
  | _ => false

/-- a call that gets a slice inside a row, to write it -/
def callDsl (E : Env) (H : Heap) (wr : Nat → Bool) (en : Entry) (args : List SV) (nx : Nat) (K : SV → Upd → Nat → Option R) : Option R :=
  match dslIn args with
  | none => none
  | some d => match H d.n with
    | some (.vec T e true ver xs) => if (ver == d.ver && wr d.n && dslAlone args && en.sig.groups.isEmpty) = true then
        (match Ty.getS d.E d.e d.off e (N.rd xs d.i e.dflt) 0 with
        | none => none
        | some zs => callCore { E with nio := 1 } (fun m => if m = 0 then some (.vec d.E d.e true 0 zs) else none) (fun _ => true) en (dslOut args) 1 fun sv u n' =>
          match u with
          | [(0, some (.vec E2 e2 true _ ys))] => if sv.plain = true then
              (match asRows d.E d.e E2 e2 ys with
              | none => none
              | some ys => match Ty.setS d.E d.e ys d.off e (N.rd xs d.i e.dflt) 0 with
                | none => none
                | some y => K sv [(d.n, some (.vec T e true (ver + 1) (N.set xs d.i y)))] nx)
            else none
          | _ => none)
      else none
    | _ => none

def callSV (E : Env) (H : Heap) (wr : Nat → Bool) (f : FuncId) (args : List SV) (nx : Nat) (K : SV → Upd → Nat → Option R) : Option R :=
  match E.Γ f (fnIds args) with
  | none => none
  | some en => match ungroup en.sig.groups args with
   | none => none
   | some fargs => match argsOf H wr en.sig.params fargs with
    | none => callDsl E H wr en args nx K
    | some _ => if shares en.sig.res en.sig.params then
       (match argsOf H wr en.sig.params fargs with
       | none => none
       | some (_, _, rs) => callCore E (H.upd (frz (tk E wr) H rs)) wr en fargs nx fun sv u n => K sv (frz (tk E wr) H rs ++ u) n)
     else callCore E H wr en fargs nx K

def minSV : LV → List LV → Option LV
  | x, [] => some x
  | .int k a, .int k' b :: r => if k = k' then minSV (.int k (N.min a b)) r else none
  | _, _ => none
def maxSV : LV → List LV → Option LV
  | x, [] => some x
  | .int k a, .int k' b :: r => if k = k' then maxSV (.int k (N.max a b)) r else none
  | _, _ => none

def leaves : List SV → Option (List LV)
  | [] => some []
  | .lf v :: r => match leaves r with | some vs => some (v :: vs) | none => none
  | _ :: _ => none

def capsIn : List SV → Option (List Cap)
  | [] => some []
  | .lf v :: r => match v.cap with
    | some c => match capsIn r with | some cs => some (c :: cs) | none => none
    | none => none
  | _ :: _ => none

def capLV : Cap → LV
  | .ptr n => .ptr n 0
  | .cptr t x => .cptr t x 0

def nilOpnd : Operand → Bool
  | .const (.slice none 0 0) => true
  | _ => false

/-- 's == nil' -/
def nilSV (x : SV) (K : SV → Option R) : Option R :=
  match x with
  | .lf (.sl _ _ xs) => K (.lf (.isnil (N.isE xs)))
  | .lf .nil => K (.lf (.isnil true))
  | _ => none

def sameOpnd : Operand → Operand → Bool
  | .tmp a, .tmp b => a == b
  | .const (.int j a), .const (.int k b) => j == k && a == b
  | _, _ => false

def lenOk (ti : TI) : SV → Bool
  | .lf (.str _) => ti.ty == some .str
  | _ => ti.elem.isSome

def evCall (E : Env) (H : Heap) (wr : Nat → Bool) (nx : Nat) (ρ : Operand → SV) (c : Call) (K : SV → Upd → Nat → Option R) : Option R :=
  match c.callee with
  | .value f => match ρ f with
    | .lf (.fn f cs) => callSV E H wr f (c.args.toList.map ρ ++ cs.map fun c => .lf (capLV c)) nx K
    | _ => none
  | .builtin .len => match c.args.toList, c.argTypes.toList with
    | [x], [t] => match E.ti t with
      | some ti => if ti.ty.isSome && !ti.agg && lenOk ti (ρ x) then lenSV H (ρ x) fun n => K (.lf (.int .i64 n)) [] nx else none
      | none => none
    | _, _ => none
  | .builtin .append => match c.args.toList, c.argTypes.toList with
    | [s, x], [t, t'] => if t = t' then appendSV E H wr t (ρ s) (ρ x) nx K else none
    | _, _ => none
  | .builtin .copy => match c.args.toList, c.argTypes.toList with
    | [d, s], [t, t'] => if t = t' then copySV E H wr t (ρ d) (ρ s) (fun x u => K x u nx) else none
    | _, _ => none
  | .builtin .min => match leaves (c.args.toList.map ρ) with
    | some (x :: xs) => match minSV x xs with | some x => K (.lf x) [] nx | none => none
    | _ => none
  | .builtin .max => match leaves (c.args.toList.map ρ) with
    | some (x :: xs) => match maxSV x xs with | some x => K (.lf x) [] nx | none => none
    | _ => none
  | _ => none

def evOp (E : Env) (H : Heap) (wr : Nat → Bool) (nx : Nat) (ρ : Operand → SV) (o : Oper) (K : SV → Upd → Nat → Option R) : Option R :=
  let v (x : SV) : Option R := K x [] nx
  match o.op with
  | .move x | .assign x => v (ρ x)
  | .pick c a b => match ρ c with
    | .lf (.bool c) => N.cond c (v (ρ a)) (v (ρ b))
    | _ => none
  | .alloc t => match E.ti t with
    | some ti => match ti.ty with
      | some ty => K (.lf (.ptr nx 0)) [(nx, some (.box ty.zero))] (nx + 1)
      | none => none
    | none => none
  | .box t x => match E.ti t, (ρ x).cells with
    | some ti, some cs => if cs.length = ti.size then K (.lf (.ptr nx 0)) [(nx, some (.box cs))] (nx + 1) else none
    | _, _ => none
  | .build t ps => buildSV E t (ps.toList.map fun p => (p.1, ρ p.2)) v
  | .buildSlice t n ps => if inOrder 0 ps.toList then buildSliceSV E H wr o.dst t n (ps.toList.map fun p => ρ p.2) nx K else none
  | .load t a => loadSV E H t (ρ a) v
  | .store t a x => storeSV E H wr t (ρ a) (ρ x) fun u => K .undef u nx
  | .nilCheck x => match ρ x with
    | .lf (.ptr n p) => v (.lf (.ptr n p))
    | .lf (.vptr n i p) => v (.lf (.vptr n i p))
    | .lf (.cptr t x p) => v (.lf (.cptr t x p))
    | .lf (.fn f cs) => v (.lf (.fn f cs))
    | _ => none
  | .binOp op t x y _ => match E.ti t with
    | some ti => if (elemOf E t).isSome && nilOpnd y && op == .eql then nilSV (ρ x) v else if ti.eq then binAgg ti op (ρ x) (ρ y) v else if ti.agg then none else binSV ti op (ρ x) (ρ y) v
    | none => none
  | .unOp op _ x => unSV op (ρ x) v
  | .convert s d x => match E.ti s, E.ti d with
    | some si, some di => if si.ty.isSome then convS E H s di (ρ x) v else none
    | _, _ => none
  | .makeFunc (.func f) first caps => if first.size = 0 then match capsIn (caps.toList.map ρ) with
      | some cs => v (.lf (.fn f cs))
      | none => none
    else none
  | .makeSlice t l c => if sameOpnd l c then makeSV E o.dst t (ρ l) nx K else none
  | .slice t x lo hi mx => match E.ti t with
    | some ti => if ti.ty.isSome then match mx with
        | none => match boundSV (lo.map ρ), boundSV (hi.map ρ) with
          | some lo, some hi => (match ρ x with
            | .lf (.str s) => if ti.ty = some .str ∧ ti.agg = false then sliceStr s lo hi v else none
            | x => sliceSV E H t x lo hi v)
          | _, _ => none
        | some _ => match elemOf E t with
          | some _ => sliceNone (ρ x) (lo.map ρ) (hi.map ρ) (mx.map ρ) v
          | none => none
      else none
    | none => none
  | .fieldAddr t x f => fieldAddrSV E t (ρ x) f v
  | .field t x f => fieldSV E t (ρ x) f v
  | .indexAddr t x i => match E.ti t with
    | some ti => if ti.ty.isSome then indexAddrSV E H t (ρ x) (ρ i) v else none
    | none => none
  | .index t x i => match E.ti t with
    | some ti => if ti.ty = some .str ∧ ti.agg = false then indexSV (ρ x) (ρ i) v else none
    | none => none
  | .extract t i => match ρ t with
    | .tup vs => match vs[i]? with
      | some (a, cs) => v (pack a cs)
      | none => none
    | _ => none
  | .call c => evCall E H wr nx ρ c K
  | _ => none
end
end Go.Sh

namespace Go.Sh
open Go

/-! ## What values mean in a world -/
def All2 {α β : Type} (r : α → β → Prop) : List α → List β → Prop
  | [], [] => True
  | a :: x, b :: y => r a b ∧ All2 r x y
  | _, _ => False

def All3 {α β γ : Type} (r : α → β → γ → Prop) : List α → List β → List γ → Prop
  | [], [], [] => True
  | a :: x, b :: y, c :: z => r a b c ∧ All3 r x y z
  | _, _, _ => False

theorem All2.len {α β : Type} {r : α → β → Prop} : ∀ {x : List α} {y : List β}, All2 r x y → x.length = y.length
  | [], [], _ => rfl
  | _ :: x, _ :: y, h => by simp [All2.len h.2]

theorem All2.mono {α β : Type} {r r' : α → β → Prop} : ∀ {x : List α} {y : List β}, All2 r x y → (∀ a ∈ x, ∀ b, r a b → r' a b) → All2 r' x y
  | [], [], _, _ => trivial
  | a :: x, b :: y, h, hr => ⟨hr a (by simp) b h.1, All2.mono h.2 fun a ha => hr a (List.mem_cons_of_mem _ ha)⟩

theorem All2.get {α β : Type} {r : α → β → Prop} : ∀ {x : List α} {y : List β}, All2 r x y → ∀ {j : Nat} {a : α} {b : β}, x[j]? = some a → y[j]? = some b → r a b
  | _ :: _, _ :: _, h, 0, _, _, ha, hb => by simp at ha hb; subst ha; subst hb; exact h.1
  | _ :: x, _ :: y, h, j + 1, a, b, ha, hb => All2.get h.2 (j := j) (by simpa using ha) (by simpa using hb)

theorem All2.append {α β : Type} {r : α → β → Prop} : ∀ {x x' : List α} {y y' : List β}, All2 r x y → All2 r x' y' → All2 r (x ++ x') (y ++ y')
  | [], _, [], _, _, h' => h'
  | _ :: _, _, _ :: _, _, h, h' => ⟨h.1, All2.append h.2 h'⟩

theorem All2.take {α β : Type} {r : α → β → Prop} : ∀ {x : List α} {y : List β} (n : Nat), All2 r x y → All2 r (x.take n) (y.take n)
  | [], [], _, _ => by simp [All2]
  | _ :: _, _ :: _, 0, _ => by simp [All2]
  | _ :: _, _ :: _, n + 1, h => ⟨h.1, All2.take n h.2⟩

theorem All2.drop {α β : Type} {r : α → β → Prop} : ∀ {x : List α} {y : List β} (n : Nat), All2 r x y → All2 r (x.drop n) (y.drop n)
  | [], [], _, _ => by simp [All2]
  | _ :: _, _ :: _, 0, h => h
  | _ :: _, _ :: _, n + 1, h => All2.drop n h.2

theorem All2.split {α β : Type} {r : α → β → Prop} : ∀ {x x' : List α} {y : List β}, All2 r (x ++ x') y → ∃ y1 y2, y = y1 ++ y2 ∧ All2 r x y1 ∧ All2 r x' y2
  | [], _, y, h => ⟨[], y, rfl, trivial, h⟩
  | _ :: x, _, b :: y, h => by
    obtain ⟨y1, y2, e, h1, h2⟩ := All2.split (x := x) h.2
    exact ⟨b :: y1, y2, by simp [e], ⟨h.1, h1⟩, h2⟩

theorem All3.mono {α β γ : Type} {r r' : α → β → γ → Prop} : ∀ {x : List α} {y : List β} {z : List γ}, All3 r x y z → (∀ a b, ∀ c ∈ z, r a b c → r' a b c) → All3 r' x y z
  | [], [], [], _, _ => trivial
  | _ :: _, _ :: _, c :: z, h, hr => ⟨hr _ _ c (by simp) h.1, All3.mono h.2 fun a b c hc => hr a b c (List.mem_cons_of_mem _ hc)⟩

theorem All3.len {α β γ : Type} {r : α → β → γ → Prop} : ∀ {x : List α} {y : List β} {z : List γ}, All3 r x y z → x.length = y.length ∧ z.length = y.length
  | [], [], [], _ => ⟨rfl, rfl⟩
  | _ :: x, _ :: y, _ :: z, h => by have := All3.len h.2; simp [this.1, this.2]

/-- cells read as a native value, in blocks of 'S' -/
def Rd (w : World) (S : Nat → Prop) : (t : Ty) → List Value → t.den → Prop
  | .int k, cs, x => cs = [.int k x]
  | .bool, cs, x => cs = [.bool x]
  | .str, cs, x => cs = [.string x]
  | .pair a b, cs, x => ∃ c1 c2, cs = c1 ++ c2 ∧ Rd w S a c1 x.1 ∧ Rd w S b c2 x.2
  | .slice _ e, cs, x => ∃ A cap, cs = [.slice A x.length cap] ∧ x.length ≤ cap ∧
      ∀ i (hi : i < x.length), ∃ b o ci, A = some ⟨b, o, none⟩ ∧ S b ∧ (∀ j u, ci[j]? = some u → w.cell? ⟨b, o + i * e.size + j, none⟩ = some u) ∧ Rd w S e ci x[i]

/-- a row of the call's own: its elements as 'El' tells -/
def Row1 {α : Type} (w : World) (E : TypeId) (size : Nat) (El : List Value → α → List Nat → Prop) (v : Value) (xs : List α) (foot : List Nat) : Prop :=
  (xs = [] ∧ (∃ A, v = .slice A 0 0) ∧ foot = []) ∨
  ∃ g cap cur css bss, v = .slice (some ⟨g, 0, none⟩) xs.length cap ∧ w.heap[g]? = some (.cells cur E (0, 0)) ∧ xs.length ≤ cap ∧ cap ≤ maxLen ∧
    cur.size = cap * size ∧ cur.toList.take (xs.length * size) = css.flatten ∧ foot = g :: bss.flatten ∧ All3 El css xs bss

/-- cells read as a native value, all of whose rows are the value's own: the blocks 'bs' -/
def Ow (w : World) : (t : Ty) → List Value → t.den → List Nat → Prop
  | .int k, cs, x, bs => cs = [.int k x] ∧ bs = []
  | .bool, cs, x, bs => cs = [.bool x] ∧ bs = []
  | .str, cs, x, bs => cs = [.string x] ∧ bs = []
  | .pair a b, cs, x, bs => ∃ c1 c2 b1 b2, cs = c1 ++ c2 ∧ bs = b1 ++ b2 ∧ Ow w a c1 x.1 b1 ∧ Ow w b c2 x.2 b2
  | .slice E e, cs, x, bs => ∃ v, cs = [v] ∧ Row1 w E e.size (Ow w e) v x bs

/-- an element of a row, deep or not -/
def El (w : World) (S : Nat → Prop) (d : Bool) (e : Ty) (c : List Value) (x : e.den) (bs : List Nat) : Prop :=
  if d then Ow w e c x bs else Rd w S e c x ∧ bs = []

theorem Rd.size {w : World} {S : Nat → Prop} : ∀ {t : Ty} {cs : List Value} {x : t.den}, Rd w S t cs x → cs.length = t.size
  | .int _, _, _, h => by cases h; rfl
  | .bool, _, _, h => by cases h; rfl
  | .str, _, _, h => by cases h; rfl
  | .pair a b, _, _, h => by obtain ⟨c1, c2, rfl, h1, h2⟩ := h; simp [Ty.size, h1.size, h2.size]
  | .slice _ _, _, _, h => by obtain ⟨A, cap, rfl, _⟩ := h; rfl

theorem Ow.size {w : World} : ∀ {t : Ty} {cs : List Value} {x : t.den} {bs : List Nat}, Ow w t cs x bs → cs.length = t.size
  | .int _, _, _, _, h => by rw [h.1]; rfl
  | .bool, _, _, _, h => by rw [h.1]; rfl
  | .str, _, _, _, h => by rw [h.1]; rfl
  | .pair a b, _, _, _, h => by obtain ⟨c1, c2, _, _, rfl, _, h1, h2⟩ := h; simp [Ty.size, h1.size, h2.size]
  | .slice _ _, _, _, _, h => by obtain ⟨v, rfl, _⟩ := h; rfl

theorem Ty.size_pos : ∀ t : Ty, 0 < t.size
  | .int _ | .bool | .str | .slice _ _ => by simp [Ty.size]
  | .pair a b => by have := a.size_pos; simp [Ty.size]; omega

def Same (w w' : World) (b : Nat) : Prop := w'.heap[b]? = w.heap[b]?

theorem Same.cell {w w' : World} {b : Nat} (h : Same w w' b) (o : Nat) (s : Option Nat) : w'.cell? ⟨b, o, s⟩ = w.cell? ⟨b, o, s⟩ := World.cell?_of_block h

theorem Rd.mono {w w' : World} {S S' : Nat → Prop} (hS : ∀ b, S b → S' b) (hw : ∀ b, S b → Same w w' b) : ∀ {t : Ty} {cs : List Value} {x : t.den}, Rd w S t cs x → Rd w' S' t cs x
  | .int _, _, _, h => h
  | .bool, _, _, h => h
  | .str, _, _, h => h
  | .pair a b, _, _, h => by obtain ⟨c1, c2, e, h1, h2⟩ := h; exact ⟨c1, c2, e, h1.mono hS hw, h2.mono hS hw⟩
  | .slice _ e, _, _, h => by
    obtain ⟨A, cap, e1, hc, h⟩ := h
    refine ⟨A, cap, e1, hc, fun i hi => ?_⟩
    obtain ⟨b, o, ci, e2, hb, hcell, hr⟩ := h i hi
    exact ⟨b, o, ci, e2, hS b hb, fun j u hu => by rw [(hw b hb).cell]; exact hcell j u hu, hr.mono hS hw⟩

theorem Row1.mono {α : Type} {w w' : World} {E : TypeId} {size : Nat} {El El' : List Value → α → List Nat → Prop} {v : Value} {xs : List α} {foot : List Nat}
    (h : Row1 w E size El v xs foot) (hw : ∀ b ∈ foot, Same w w' b) (hE : ∀ c x bs, (∀ b ∈ bs, b ∈ foot) → El c x bs → El' c x bs) : Row1 w' E size El' v xs foot := by
  rcases h with h | ⟨g, cap, cur, css, bss, h1, h2, h3, h4, h5, h6, h7, h8⟩
  · exact .inl h
  · refine .inr ⟨g, cap, cur, css, bss, h1, ?_, h3, h4, h5, h6, h7, ?_⟩
    · rw [hw g (by simp [h7])]; exact h2
    · refine h8.mono fun a b c hc => hE a b c fun k hk => ?_
      rw [h7]; exact List.mem_cons_of_mem _ (List.mem_flatten.2 ⟨c, hc, hk⟩)

theorem Ow.mono {w w' : World} : ∀ {t : Ty} {cs : List Value} {x : t.den} {bs : List Nat}, Ow w t cs x bs → (∀ b ∈ bs, Same w w' b) → Ow w' t cs x bs
  | .int _, _, _, _, h, _ => h
  | .bool, _, _, _, h, _ => h
  | .str, _, _, _, h, _ => h
  | .pair a b, _, _, _, h, hw => by
    obtain ⟨c1, c2, b1, b2, e1, rfl, h1, h2⟩ := h
    exact ⟨c1, c2, b1, b2, e1, rfl, h1.mono fun b hb => hw b (by simp [hb]), h2.mono fun b hb => hw b (by simp [hb])⟩
  | .slice E e, _, _, _, h, hw => by
    obtain ⟨v, e1, h⟩ := h
    exact ⟨v, e1, h.mono hw fun c x bs hb ho => ho.mono fun b hbb => hw b (hb b hbb)⟩

theorem flatten_get {α : Type} {k : Nat} (hk : 0 < k) (css : List (List α)) (hl : ∀ c ∈ css, c.length = k) (i : Nat) (c : List α) (hc : css[i]? = some c) (j : Nat) (u : α) (hu : c[j]? = some u) :
    css.flatten[i * k + j]? = some u := by
  induction css generalizing i with
  | nil => simp at hc
  | cons c0 css ih =>
    have h0 : c0.length = k := hl c0 (by simp)
    cases i with
    | zero =>
      simp at hc; subst hc
      simp only [Nat.zero_mul, Nat.zero_add, List.flatten_cons]
      rw [List.getElem?_append_left ((List.getElem?_eq_some_iff.1 hu).1)]; exact hu
    | succ i =>
      have := ih (fun c hc => hl c (List.mem_cons_of_mem _ hc)) i (by simpa using hc)
      rw [List.flatten_cons, List.getElem?_append_right (by rw [h0, Nat.succ_mul]; omega), h0]
      rw [show (i + 1) * k + j - k = i * k + j by rw [Nat.succ_mul]; omega]
      exact this

theorem All3.get {α β γ : Type} {r : α → β → γ → Prop} (x : List α) (y : List β) (z : List γ) (h : All3 r x y z) (i : Nat) (hi : i < y.length) : ∃ a c, x[i]? = some a ∧ z[i]? = some c ∧ r a y[i] c := by
  induction y generalizing x z i with
  | nil => simp at hi
  | cons b y ih =>
    cases x with
    | nil => cases z <;> exact h.elim
    | cons a x => cases z with
      | nil => exact h.elim
      | cons c z => cases i with
        | zero => exact ⟨a, c, rfl, rfl, h.1⟩
        | succ i =>
          obtain ⟨a', c', h1, h2, h3⟩ := ih x z h.2 i (by simpa using hi)
          exact ⟨a', c', by simpa using h1, by simpa using h2, by simpa using h3⟩

/-- the cells of element i -/
theorem Row1.cell {α : Type} {w : World} {E : TypeId} {size : Nat} (hs : 0 < size) {El : List Value → α → List Nat → Prop} {v : Value} {xs : List α} {foot : List Nat}
    (h : Row1 w E size El v xs foot) (hlen : ∀ c x bs, El c x bs → c.length = size) {i : Nat} (hi : i < xs.length) :
    ∃ g cap ci bi, v = .slice (some ⟨g, 0, none⟩) xs.length cap ∧ xs.length ≤ cap ∧ g ∈ foot ∧ (∀ b ∈ bi, b ∈ foot) ∧ El ci xs[i] bi ∧ ∀ j u, ci[j]? = some u → w.cell? ⟨g, i * size + j, none⟩ = some u := by
  rcases h with ⟨h, _⟩ | ⟨g, cap, cur, css, bss, h1, h2, h3, h4, h5, h6, h7, h8⟩
  · subst h; simp at hi
  · obtain ⟨ci, bi, e1, e2, hE⟩ := All3.get _ _ _ h8 i hi
    refine ⟨g, cap, ci, bi, h1, h3, by simp [h7], fun b hb => ?_, hE, fun j u hu => ?_⟩
    · rw [h7]; exact List.mem_cons_of_mem _ (List.mem_flatten.2 ⟨bi, List.mem_of_getElem? e2, hb⟩)
    · have hl : ∀ c ∈ css, c.length = size := fun c hc => by
        obtain ⟨k, hk, e⟩ := List.getElem_of_mem hc
        have := h8.len
        obtain ⟨c', b', e3, _, hE'⟩ := All3.get _ _ _ h8 k (by omega)
        have : c' = c := by rw [List.getElem?_eq_getElem hk] at e3; simpa [e] using e3.symm
        exact this ▸ hlen _ _ _ hE'
      have hf := flatten_get hs css hl i ci e1 j u hu
      rw [← h6] at hf
      have : w.cell? ⟨g, i * size + j, none⟩ = cur[i * size + j]? := by simp [World.cell?, h2]
      rw [this]
      rw [List.getElem?_take] at hf
      split at hf
      · simpa using hf
      · cases hf

theorem Row1.rd {w : World} {E : TypeId} {e : Ty} {El : List Value → e.den → List Nat → Prop} {v : Value} {xs : List e.den} {foot : List Nat} {F : Nat → Prop}
    (h : Row1 w E e.size El v xs foot) (hF : ∀ b ∈ foot, F b) (hE : ∀ c x bs, (∀ b ∈ bs, b ∈ foot) → El c x bs → Rd w F e c x) : Rd w F (.slice E e) [v] xs := by
  rcases h with ⟨rfl, ⟨A, rfl⟩, rfl⟩ | ⟨g, cap, cur, css, bss, h1, h2, h3, h4, h5, h6, h7, h8⟩
  · exact ⟨A, 0, rfl, Nat.le_refl _, fun i hi => by simp at hi⟩
  · have h8' : All3 (fun c x bs => Rd w F e c x ∧ True) css xs bss := h8.mono fun a b c hc hh => ⟨hE a b c (fun k hk => by rw [h7]; exact List.mem_cons_of_mem _ (List.mem_flatten.2 ⟨c, hc, hk⟩)) hh, trivial⟩
    refine ⟨some ⟨g, 0, none⟩, cap, by rw [h1], h3, fun i hi => ?_⟩
    obtain ⟨g', cap', ci, bi, e1, _, hg, _, hE', hc⟩ := Row1.cell (e.size_pos) (El := fun c x bs => Rd w F e c x ∧ True) (.inr ⟨g, cap, cur, css, bss, h1, h2, h3, h4, h5, h6, h7, h8'⟩) (fun c x bs hh => hh.1.size) hi
    rw [h1] at e1
    simp only [Value.slice.injEq, Option.some.injEq, Addr.mk.injEq, and_true] at e1
    obtain ⟨rfl, _, _⟩ := e1
    exact ⟨g, 0, ci, rfl, hF g hg, fun j u hu => by rw [Nat.zero_add]; exact hc j u hu, hE'.1⟩

theorem Ow.rd {w : World} : ∀ {t : Ty} {cs : List Value} {x : t.den} {bs : List Nat} {F : Nat → Prop}, Ow w t cs x bs → (∀ b ∈ bs, F b) → Rd w F t cs x
  | .int _, _, _, _, _, h, _ => h.1
  | .bool, _, _, _, _, h, _ => h.1
  | .str, _, _, _, _, h, _ => h.1
  | .pair a b, _, _, _, _, h, hF => by
    obtain ⟨c1, c2, b1, b2, e1, rfl, h1, h2⟩ := h
    exact ⟨c1, c2, e1, h1.rd fun b hb => hF b (by simp [hb]), h2.rd fun b hb => hF b (by simp [hb])⟩
  | .slice E e, _, _, _, _, h, hF => by
    obtain ⟨v, rfl, h⟩ := h
    exact h.rd hF fun c x bs hb ho => ho.rd fun b hbb => hF b (hb b hbb)

/-- numbers, bools and strings own nothing -/
theorem Rd.flat {w : World} {S : Nat → Prop} : ∀ {t : Ty} {cs : List Value} {x : t.den}, t.flat = true → Rd w S t cs x → Ow w t cs x []
  | .int _, _, _, _, h => ⟨h, rfl⟩
  | .bool, _, _, _, h => ⟨h, rfl⟩
  | .str, _, _, _, h => ⟨h, rfl⟩
  | .pair a b, _, _, hf, h => by
    simp only [Ty.flat, Bool.and_eq_true] at hf
    obtain ⟨c1, c2, e, h1, h2⟩ := h
    exact ⟨c1, c2, [], [], e, rfl, h1.flat hf.1, h2.flat hf.2⟩
  | .slice _ _, _, _, hf, _ => by simp [Ty.flat] at hf

theorem Ow.flat {w : World} : ∀ {t : Ty} {cs : List Value} {x : t.den} {bs : List Nat}, t.flat = true → Ow w t cs x bs → bs = []
  | .int _, _, _, _, _, h => h.2
  | .bool, _, _, _, _, h => h.2
  | .str, _, _, _, _, h => h.2
  | .pair a b, _, _, _, hf, h => by
    simp only [Ty.flat, Bool.and_eq_true] at hf
    obtain ⟨c1, c2, b1, b2, e, rfl, h1, h2⟩ := h
    rw [h1.flat hf.1, h2.flat hf.2]; rfl
  | .slice _ _, _, _, _, hf, _ => by simp [Ty.flat] at hf

theorem El.size {w : World} {S : Nat → Prop} {d : Bool} {e : Ty} {c : List Value} {x : e.den} {bs : List Nat} (h : El w S d e c x bs) : c.length = e.size := by
  unfold El at h; split at h
  · exact h.size
  · exact h.1.size

theorem El.rd {w : World} {S F : Nat → Prop} {d : Bool} {e : Ty} {c : List Value} {x : e.den} {bs : List Nat} (h : El w S d e c x bs) (hS : ∀ b, S b → F b) (hb : ∀ b ∈ bs, F b) : Rd w F e c x := by
  unfold El at h; split at h
  · exact h.rd hb
  · exact h.1.mono hS fun _ _ => rfl

theorem El.mono {w w' : World} {S S' : Nat → Prop} {d : Bool} {e : Ty} {c : List Value} {x : e.den} {bs : List Nat} (h : El w S d e c x bs) (hS : ∀ b, S b → S' b) (hw : ∀ b, S b → Same w w' b) (hb : ∀ b ∈ bs, Same w w' b) : El w' S' d e c x bs := by
  unfold El at *; split at h
  · simp_all; exact h.mono hb
  · simp_all; exact h.1.mono hS hw
end Go.Sh

namespace Go.Sh
open Go Go.RowKit

/-! ## What names mean -/
structure RO where
  v : Value
  len : Nat
  es : Nat
  ver : Nat
  foot : List Nat

structure Cx where
  S : Nat → Prop
  μ : Nat → RO

/-- a pointer into memory that reads as x -/
def CP (w : World) (S : Nat → Prop) (t : Ty) (x : t.den) (off : Nat) (v : Value) : Prop :=
  ∃ b o vs, v = .pointer (some ⟨b, o + off, none⟩) ∧ S b ∧ Rd w S t vs x ∧ ∀ j u, vs[j]? = some u → w.cell? ⟨b, o + j, none⟩ = some u

def VC (cx : Cx) (w : World) : Cap → Value → Prop
  | .ptr n, v => ∃ g, v = .pointer (some ⟨g, 0, none⟩) ∧ (cx.μ n).v = v
  | .cptr t x, v => CP w cx.S t x 0 v

/-- a cell of element i of a row -/
def At (w : World) (r : RO) (i : Int) (off : Nat) (v : Value) : Prop :=
  0 ≤ i ∧ i < (r.len : Int) ∧ ∃ g cap, r.v = .slice (some ⟨g, 0, none⟩) r.len cap ∧ g ∈ r.foot ∧ off < r.es ∧ w.cell? ⟨g, i.toNat * r.es + off, none⟩ = some v

theorem At.mono {w w' : World} {r r' : RO} {i : Int} {off : Nat} {v : Value} (h : At w r i off v) (e1 : r'.v = r.v) (e2 : r'.len = r.len) (e3 : r'.es = r.es) (e4 : r'.foot = r.foot) (hs : ∀ b ∈ r.foot, Same w w' b) : At w' r' i off v := by
  obtain ⟨h0, h1, g, cap, h2, h3, h4, h5⟩ := h
  unfold At
  rw [e1, e2, e3, e4]
  exact ⟨h0, h1, g, cap, h2, h3, h4, by rw [(hs g h3).cell]; exact h5⟩

def VL (cx : Cx) (w : World) : LV → Value → Prop
  | .int k n, v => v = .int k n
  | .bool b, v => v = .bool b
  | .str s, v => v = .string s
  | .nil, v => ∃ A, v = .slice A 0 0
  | .sl E e xs, v => Rd w cx.S (.slice E e) [v] xs
  | .ref n, v => v = (cx.μ n).v ∧ ∃ A l c, v = .slice A l c
  | .sub n lo hi, v => 0 ≤ lo ∧ lo ≤ hi ∧ hi ≤ ((cx.μ n).len : Int) ∧ ∃ A cap A', (cx.μ n).v = .slice A (cx.μ n).len cap ∧ (cx.μ n).len ≤ cap ∧
      v = .slice A' (hi - lo).toNat (cap - lo.toNat) ∧ (lo = 0 → A' = A) ∧ (lo < hi → ∃ b o, A = some ⟨b, o, none⟩ ∧ A' = some ⟨b, o + lo.toNat * (cx.μ n).es, none⟩)
  | .dsl n ver i off E e xs, v => ver ≤ (cx.μ n).ver ∧ (ver = (cx.μ n).ver → Rd w (· ∈ (cx.μ n).foot) (.slice E e) [v] xs ∧ At w (cx.μ n) i off v) ∧ (∃ A l c, v = .slice A l c) ∧ ∃ A c, v = .slice A xs.length c
  | .ptr n off, v => ∃ g, (cx.μ n).v = .pointer (some ⟨g, 0, none⟩) ∧ v = .pointer (some ⟨g, off, none⟩)
  | .vptr n i off, v => ∃ g cap, (cx.μ n).v = .slice (some ⟨g, 0, none⟩) (cx.μ n).len cap ∧ 0 ≤ i ∧ i < ((cx.μ n).len : Int) ∧ v = .pointer (some ⟨g, i.toNat * (cx.μ n).es + off, none⟩)
  | .cptr t x off, v => CP w cx.S t x off v
  | .fn f cs, v => ∃ vs, v = .func (.func f) #[] vs.toArray ∧ All2 (VC cx w) cs vs
  | .isnil e, v => ∃ b, v = .bool b ∧ (b = true → e = true)

/-- a value as its cells tell it -/
def VP (cx : Cx) (w : World) (agg : Bool) (cs : List LV) (v : Value) : Prop :=
  if agg then ∃ vs, v = .agg vs.toArray ∧ All2 (VL cx w) cs vs else ∃ c, cs = [c] ∧ VL cx w c v

def VR (cx : Cx) (w : World) : SV → Value → Prop
  | .top, _ => True
  | .undef, v => v = undef
  | .lf c, v => VL cx w c v
  | .agg cs, v => ∃ vs, v = .agg vs.toArray ∧ All2 (VL cx w) cs vs
  | .tup ts, v => ∃ vs, v = .tuple vs.toArray ∧ All2 (fun t u => VP cx w t.1 t.2 u) ts vs

/-- a row's object in memory -/
def VecR (cx : Cx) (w : World) (r : RO) (E : TypeId) (e : Ty) (d : Bool) (xs : List e.den) : Prop :=
  r.len = xs.length ∧ r.es = e.size ∧ Row1 w E e.size (El w cx.S d e) r.v xs r.foot

def ObR (cx : Cx) (w : World) (r : RO) : Ob → Prop
  | .box cells => ∃ g cur T, r.v = .pointer (some ⟨g, 0, none⟩) ∧ r.foot = [g] ∧ w.heap[g]? = some (.cells cur T (0, 0)) ∧ All2 (VL cx w) cells cur.toList
  | .vec E e d ver xs => ver = r.ver ∧ VecR cx w r E e d xs
  | .fro E e xs => r.len = xs.length ∧ r.es = e.size ∧ r.foot = [] ∧ Rd w cx.S (.slice E e) [r.v] xs

/-- what stands in memory from the start and is never lent: the laid variables -/
class Laid where
  ok : World → Prop
  blk : Nat → Prop
  lt : ∀ (w : World) (b : Nat), ok w → blk b → b < w.heap.size
  keep : ∀ (w w' : World), ok w → (∀ b, blk b → Same w w' b) → ok w'

structure Base where
  w0 : World
  F0 : Nat → Prop
  lent : Nat → Prop
  nio : Nat

/-- rows, boxes and memory -/
structure RH [Laid] (G : Base) (N : Nat) (H : Heap) (cx : Cx) (w : World) : Prop where
  ob : ∀ n o, H n = some o → ObR cx w (cx.μ n) o
  lt : ∀ n o, H n = some o → n < N
  dead : ∀ n, H n = none → (cx.μ n).foot = []
  dj : ∀ n m o o', H n = some o → H m = some o' → n ≠ m → ∀ b, b ∈ (cx.μ n).foot → b ∉ (cx.μ m).foot
  nd : ∀ n o, H n = some o → (cx.μ n).foot.Nodup
  mine : ∀ n o b, H n = some o → b ∈ (cx.μ n).foot → (G.w0.heap.size ≤ b ∨ n < G.nio ∧ G.lent b) ∧ b < w.heap.size ∧ ¬ cx.S b
  ss : ∀ b, cx.S b → b < w.heap.size
  sg : ∀ b, cx.S b → G.F0 b ∨ G.w0.heap.size ≤ b
  os : w.os = G.w0.os
  tape : w.tape = G.w0.tape
  output : w.output = G.w0.output
  size : G.w0.heap.size ≤ w.heap.size
  block : ∀ b, b < G.w0.heap.size → ¬ G.lent b → Same G.w0 w b
  laid : Laid.ok G.w0 ∧ ∀ b, Laid.blk b → ¬ G.lent b

theorem RH.now [Laid] {G : Base} {N : Nat} {H : Heap} {cx : Cx} {w : World} (h : RH G N H cx w) : Laid.ok w :=
  Laid.keep _ _ h.laid.1 fun b hb => h.block b (Laid.lt _ _ h.laid.1 hb) (h.laid.2 b hb)

/-- from one world to a later one: names from nx to n' are new -/
structure Tr (nx n' : Nat) (cx : Cx) (w : World) (cx' : Cx) (w' : World) : Prop where
  S : ∀ b, cx.S b → cx'.S b
  hp : ∀ b, cx.S b → Same w w' b
  μ : ∀ m, ¬ (nx ≤ m ∧ m < n') → (cx'.μ m).v = (cx.μ m).v ∧ (cx'.μ m).len = (cx.μ m).len ∧ (cx'.μ m).es = (cx.μ m).es ∧ (cx.μ m).ver ≤ (cx'.μ m).ver ∧
      ((cx'.μ m).ver = (cx.μ m).ver → (cx'.μ m).foot = (cx.μ m).foot ∧ ∀ b ∈ (cx.μ m).foot, Same w w' b)

theorem Tr.refl (nx : Nat) (cx : Cx) (w : World) : Tr nx nx cx w cx w :=
  ⟨fun _ h => h, fun _ _ => rfl, fun _ _ => ⟨rfl, rfl, rfl, Nat.le_refl _, fun _ => ⟨rfl, fun _ _ => rfl⟩⟩⟩

/-- the names in a value are others than nx to n' -/
def LV.old (nx n' : Nat) (v : LV) : Prop := ∀ m ∈ v.names, ¬ (nx ≤ m ∧ m < n')
def SV.old (nx n' : Nat) (v : SV) : Prop := ∀ m ∈ v.names, ¬ (nx ≤ m ∧ m < n')
def Ob.names : Ob → List Nat
  | .box cs => cs.flatMap LV.names
  | _ => []
def Ob.old (nx n' : Nat) (o : Ob) : Prop := ∀ m ∈ o.names, ¬ (nx ≤ m ∧ m < n')

section
variable {nx n' : Nat} {cx cx' : Cx} {w w' : World}

theorem CP.tr (h : Tr nx n' cx w cx' w') {t : Ty} {x : t.den} {off : Nat} {v : Value} (hc : CP w cx.S t x off v) : CP w' cx'.S t x off v := by
  obtain ⟨b, o, vs, e, hb, hr, hcell⟩ := hc
  exact ⟨b, o, vs, e, h.S b hb, hr.mono h.S h.hp, fun j u hu => by rw [(h.hp b hb).cell]; exact hcell j u hu⟩

theorem VC.tr (h : Tr nx n' cx w cx' w') {c : Cap} {v : Value} (ho : ∀ n, c = .ptr n → ¬ (nx ≤ n ∧ n < n')) (hc : VC cx w c v) : VC cx' w' c v := by
  cases c with
  | ptr n => obtain ⟨g, e, hv⟩ := hc; exact ⟨g, e, by rw [(h.μ n (ho n rfl)).1]; exact hv⟩
  | cptr t x => exact CP.tr h hc

theorem VL.tr (h : Tr nx n' cx w cx' w') {c : LV} {v : Value} (ho : c.old nx n') (hc : VL cx w c v) : VL cx' w' c v := by
  cases c with
  | int | bool | str | nil | isnil => exact hc
  | sl E e xs => exact Rd.mono h.S h.hp hc
  | ref n => have := h.μ n (ho n (by simp [LV.names])); exact ⟨by rw [this.1]; exact hc.1, hc.2⟩
  | sub n lo hi =>
    obtain ⟨e1, e2, e3, _, _⟩ := h.μ n (ho n (by simp [LV.names]))
    simp only [VL] at hc ⊢
    rw [e1, e2, e3]; exact hc
  | dsl n ver i off E e xs =>
    obtain ⟨e1, e2, e3, e4, e5⟩ := h.μ n (ho n (by simp [LV.names]))
    obtain ⟨h1, h2, h3⟩ := hc
    refine ⟨Nat.le_trans h1 e4, fun hv => ?_, h3⟩
    have hv' : (cx'.μ n).ver = (cx.μ n).ver := by omega
    obtain ⟨hf, hw⟩ := e5 hv'
    have h4 := h2 (by omega)
    refine ⟨?_, h4.2.mono e1 e2 e3 hf hw⟩
    rw [hf]
    exact h4.1.mono (fun _ hb => hb) hw
  | ptr n off => have := h.μ n (ho n (by simp [LV.names])); simp only [VL] at hc ⊢; rw [this.1]; exact hc
  | vptr n i off =>
    obtain ⟨e1, e2, e3, _, _⟩ := h.μ n (ho n (by simp [LV.names]))
    simp only [VL] at hc ⊢
    rw [e1, e2, e3]; exact hc
  | cptr t x off => exact CP.tr h hc
  | fn f cs =>
    obtain ⟨vs, e, hc⟩ := hc
    refine ⟨vs, e, hc.mono fun c hm b hb => VC.tr h (fun n hn => ho n ?_) hb⟩
    subst hn
    exact List.mem_filterMap.2 ⟨_, hm, rfl⟩

theorem VL.trs (h : Tr nx n' cx w cx' w') {cs : List LV} {vs : List Value} (ho : ∀ c ∈ cs, c.old nx n') (hc : All2 (VL cx w) cs vs) : All2 (VL cx' w') cs vs :=
  hc.mono fun c hm _ hb => hb.tr h (ho c hm)

theorem VP.tr (h : Tr nx n' cx w cx' w') {a : Bool} {cs : List LV} {v : Value} (ho : ∀ c ∈ cs, c.old nx n') (hc : VP cx w a cs v) : VP cx' w' a cs v := by
  unfold VP at *
  split
  · rename_i ha; simp only [ha, if_true] at hc; obtain ⟨vs, e, hc⟩ := hc; exact ⟨vs, e, VL.trs h ho hc⟩
  · rename_i ha; simp only [ha] at hc; obtain ⟨c, rfl, hc⟩ := hc; exact ⟨c, rfl, hc.tr h (ho c (by simp))⟩

theorem VR.tr (h : Tr nx n' cx w cx' w') {s : SV} {v : Value} (ho : s.old nx n') (hc : VR cx w s v) : VR cx' w' s v := by
  cases s with
  | top | undef => exact hc
  | lf c => exact VL.tr h ho hc
  | agg cs =>
    obtain ⟨vs, e, hc⟩ := hc
    exact ⟨vs, e, VL.trs h (fun c hm m hn => ho m (List.mem_flatMap.2 ⟨c, hm, hn⟩)) hc⟩
  | tup ts =>
    obtain ⟨vs, e, hc⟩ := hc
    exact ⟨vs, e, hc.mono fun t hm u hu => VP.tr h (fun c hc m hn => ho m (List.mem_flatMap.2 ⟨t, hm, List.mem_flatMap.2 ⟨c, hc, hn⟩⟩)) hu⟩

theorem ObR.tr (h : Tr nx n' cx w cx' w') {r : RO} {o : Ob} (ho : o.old nx n') (hw : ∀ b ∈ r.foot, Same w w' b) (hc : ObR cx w r o) : ObR cx' w' r o := by
  cases o with
  | box cells =>
    obtain ⟨g, cur, T, e1, e2, e3, hc⟩ := hc
    refine ⟨g, cur, T, e1, e2, ?_, VL.trs h (fun c hm m hn => ho m (List.mem_flatMap.2 ⟨c, hm, hn⟩)) hc⟩
    rw [hw g (by simp [e2])]; exact e3
  | vec E e d ver xs =>
    obtain ⟨e1, e2, e3, hc⟩ := hc
    exact ⟨e1, e2, e3, hc.mono hw fun c x bs hb hE => hE.mono h.S h.hp fun b hbb => hw b (hb b hbb)⟩
  | fro E e xs =>
    obtain ⟨e1, e2, e3, hc⟩ := hc
    exact ⟨e1, e2, e3, hc.mono h.S h.hp⟩
end

/-- one name's new meaning -/
def Cx.at (cx : Cx) (n : Nat) (r : RO) : Cx := { cx with μ := fun m => if m = n then r else cx.μ m }

/-! ## Reading -/
theorem castL_rfl {e : Ty} (xs : List e.den) : castL rfl xs = xs := rfl

theorem asRows_some {E : TypeId} {e : Ty} {E' : TypeId} {e' : Ty} {xs : List e'.den} {ys : List e.den} (h : asRows E e E' e' xs = some ys) : ∃ he : e' = e, E' = E ∧ castL he xs = ys := by
  unfold asRows at h
  split at h
  · rename_i he
    split at h
    · rename_i hE; simp at h; exact ⟨he, hE, h⟩
    · cases h
  · cases h

/-- the memory that a value's reading takes -/
def Feet (cx : Cx) (ns : List Nat) (b : Nat) : Prop := cx.S b ∨ ∃ n ∈ ns, b ∈ (cx.μ n).foot

theorem Feet.mono {cx : Cx} {ns ms : List Nat} (h : ∀ n ∈ ns, n ∈ ms) {b : Nat} (hb : Feet cx ns b) : Feet cx ms b :=
  hb.imp id fun ⟨n, hn, hb⟩ => ⟨n, h n hn, hb⟩

theorem Row1.slice {α : Type} {w : World} {E : TypeId} {size : Nat} {El : List Value → α → List Nat → Prop} {v : Value} {xs : List α} {foot : List Nat} (h : Row1 w E size El v xs foot) :
    ∃ A cap, v = .slice A xs.length cap ∧ xs.length ≤ cap := by
  rcases h with ⟨rfl, ⟨A, rfl⟩, rfl⟩ | ⟨g, cap, cur, css, bss, h1, h2, h3, _⟩
  · exact ⟨A, 0, rfl, Nat.le_refl _⟩
  · exact ⟨_, cap, h1, h3⟩

/-- a part of a slice reads as the part of its elements -/
theorem Rd.part {w : World} {F : Nat → Prop} {E : TypeId} {e : Ty} {A : Option Addr} {l cap : Nat} {xs : List e.den} (h : Rd w F (.slice E e) [.slice A l cap] xs) {lo hi : Int}
    (h0 : 0 ≤ lo) (h1 : lo ≤ hi) (h2 : hi ≤ (xs.length : Int)) {A' : Option Addr} {cap' : Nat} (hc : (hi - lo).toNat ≤ cap')
    (hA : lo < hi → ∃ b o, A = some ⟨b, o, none⟩ ∧ A' = some ⟨b, o + lo.toNat * e.size, none⟩) : Rd w F (.slice E e) [.slice A' (hi - lo).toNat cap'] (N.cut xs lo hi) := by
  obtain ⟨A0, cap0, e1, hcap, h⟩ := h
  simp only [List.cons.injEq, Value.slice.injEq, and_true] at e1
  obtain ⟨rfl, rfl, rfl⟩ := e1
  have hl : (N.cut xs lo hi).length = (hi - lo).toNat := by simp only [N.cut, List.length_drop, List.length_take]; omega
  refine ⟨A', cap', by rw [hl], by rw [hl]; exact hc, fun i hi' => ?_⟩
  rw [hl] at hi'
  obtain ⟨b, o, ci, e2, hb, hcell, hr⟩ := h (lo.toNat + i) (by omega)
  obtain ⟨b', o', e3, e4⟩ := hA (by omega)
  rw [e2] at e3
  simp only [Option.some.injEq, Addr.mk.injEq, and_true] at e3
  obtain ⟨rfl, rfl⟩ := e3
  refine ⟨b, o + lo.toNat * e.size, ci, e4, hb, fun j u hu => ?_, ?_⟩
  · have := hcell j u hu
    rw [Nat.add_mul] at this
    rw [← this]; congr 2; omega
  · have : (N.cut xs lo hi)[i]'(by rw [hl]; exact hi') = xs[lo.toNat + i]'(by omega) := by
      simp only [N.cut, List.getElem_drop, List.getElem_take]
    rw [this]; exact hr

theorem VecR.rd {cx : Cx} {w : World} {r : RO} {E : TypeId} {e : Ty} {d : Bool} {xs : List e.den} (h : VecR cx w r E e d xs) {F : Nat → Prop} (hS : ∀ b, cx.S b → F b) (hb : ∀ b ∈ r.foot, F b) : Rd w F (.slice E e) [r.v] xs :=
  h.2.2.rd hb fun c x bs hbs hE => hE.rd hS fun b hbb => hb b (hbs b hbb)

/-- the whole of a row reads -/
theorem ObR.rd {cx : Cx} {w : World} {n : Nat} {o : Ob} {E : TypeId} {e : Ty} {xs : List e.den} (h : ObR cx w (cx.μ n) o) (hx : o.rows E e = some xs) {F : Nat → Prop} (hS : ∀ b, cx.S b → F b) (hb : ∀ b ∈ (cx.μ n).foot, F b) :
    Rd w F (.slice E e) [(cx.μ n).v] xs ∧ (cx.μ n).len = xs.length ∧ (cx.μ n).es = e.size := by
  cases o with
  | box => simp [Ob.rows] at hx
  | vec E' e' d ver ys =>
    obtain ⟨rfl, rfl, rfl⟩ := asRows_some hx
    exact ⟨h.2.rd hS hb, h.2.1, h.2.2.1⟩
  | fro E' e' ys =>
    obtain ⟨rfl, rfl, rfl⟩ := asRows_some hx
    exact ⟨h.2.2.2.mono hS fun _ _ => rfl, h.1, h.2.1⟩

section
variable {G : Base} {N : Nat} {H Hm : Heap} {cx : Cx} {w : World}

theorem VL.rows [Laid] (h : RH G N H cx w) (hm : ∀ n o, Hm n = some o → H n = some o) {c : LV} {v : Value} (hv : VL cx w c v) {E : TypeId} {e : Ty} {xs : List e.den} (hx : c.rows Hm E e = some xs) :
    Rd w (Feet cx c.names) (.slice E e) [v] xs := by
  cases c with
  | nil =>
    obtain ⟨A, rfl⟩ := hv
    simp [LV.rows] at hx; subst hx
    exact ⟨A, 0, rfl, Nat.le_refl _, fun i hi => by simp at hi⟩
  | sl E' e' ys =>
    obtain ⟨rfl, rfl, rfl⟩ := asRows_some (by simpa [LV.rows] using hx)
    exact Rd.mono (fun b hb => .inl hb) (fun _ _ => rfl) hv
  | ref n =>
    simp only [LV.rows] at hx
    split at hx
    · rename_i o ho
      rw [hv.1]
      exact (ObR.rd (h.ob n o (hm _ _ ho)) hx (fun b hb => .inl hb) fun b hb => .inr ⟨n, by simp [LV.names], hb⟩).1
    · cases hx
  | sub n lo hi =>
    simp only [LV.rows] at hx
    split at hx
    · rename_i o ho
      split at hx
      · rename_i ys hy
        simp at hx; subst hx
        obtain ⟨hr, hl, he⟩ := ObR.rd (h.ob n o (hm _ _ ho)) hy (F := Feet cx [n]) (fun b hb => .inl hb) fun b hb => .inr ⟨n, by simp, hb⟩
        obtain ⟨h0, h1, h2, A, cap, A', e1, e2, rfl, e3, e4⟩ := hv
        rw [e1] at hr
        exact hr.part h0 h1 (by omega) (by omega) (by rw [← he]; exact e4)
      · cases hx
    · cases hx
  | dsl n ver i off E' e' ys =>
    simp only [LV.rows] at hx
    split at hx
    · rename_i E2 e2 d2 ver' zs ho
      split at hx
      · rename_i hv'
        obtain ⟨rfl, rfl, rfl⟩ := asRows_some hx
        have := h.ob n _ (hm _ _ ho)
        exact (hv.2.1 (by rw [hv', this.1])).1.mono (fun b hb => .inr ⟨n, by simp [LV.names], hb⟩) fun _ _ => rfl
      · cases hx
    · cases hx
  | int | bool | str | ptr | vptr | cptr | fn | isnil => simp [LV.rows] at hx

/-- cells that are read as a native value -/
theorem get_sound [Laid] (h : RH G N H cx w) (hm : ∀ n o, Hm n = some o → H n = some o) : ∀ {t : Ty} {cs r : List LV} {vs : List Value} {x : t.den}, t.get Hm cs = some (x, r) → All2 (VL cx w) cs vs →
    ∃ v1 v2, vs = v1 ++ v2 ∧ Rd w (Feet cx (cs.flatMap LV.names)) t v1 x ∧ All2 (VL cx w) r v2 ∧ ∃ cs', cs = cs' ++ r
  | .int k, cs, r, vs, x, hg, hv => by
    cases cs with
    | nil => simp [Ty.get] at hg
    | cons c cs =>
      cases vs with
      | nil => exact hv.elim
      | cons v vs =>
        cases c <;> simp [Ty.get] at hg
        obtain ⟨rfl, rfl, rfl⟩ := hg
        exact ⟨[v], vs, rfl, by rw [Rd, hv.1], hv.2, _, (List.singleton_append).symm⟩
  | .bool, cs, r, vs, x, hg, hv => by
    cases cs with
    | nil => simp [Ty.get] at hg
    | cons c cs =>
      cases vs with
      | nil => exact hv.elim
      | cons v vs =>
        cases c <;> simp [Ty.get] at hg
        obtain ⟨rfl, rfl⟩ := hg
        exact ⟨[v], vs, rfl, by rw [Rd, hv.1], hv.2, _, (List.singleton_append).symm⟩
  | .str, cs, r, vs, x, hg, hv => by
    cases cs with
    | nil => simp [Ty.get] at hg
    | cons c cs =>
      cases vs with
      | nil => exact hv.elim
      | cons v vs =>
        cases c <;> simp [Ty.get] at hg
        obtain ⟨rfl, rfl⟩ := hg
        exact ⟨[v], vs, rfl, by rw [Rd, hv.1], hv.2, _, (List.singleton_append).symm⟩
  | .pair a b, cs, r, vs, x, hg, hv => by
    simp only [Ty.get] at hg
    split at hg
    · rename_i y r1 h1
      split at hg
      · rename_i z r2 h2
        simp at hg; obtain ⟨rfl, rfl⟩ := hg
        obtain ⟨v1, v2, rfl, ha, hv2, cs1, rfl⟩ := get_sound h hm h1 hv
        obtain ⟨v3, v4, rfl, hb, hv4, cs2, rfl⟩ := get_sound h hm h2 hv2
        refine ⟨v1 ++ v3, v4, by simp, ⟨v1, v3, rfl, ha, ?_⟩, hv4, cs1 ++ cs2, by simp⟩
        exact hb.mono (fun b hb => hb.mono fun n hn => by simp at hn ⊢; grind) fun _ _ => rfl
      · cases hg
    · cases hg
  | .slice E e, cs, r, vs, x, hg, hv => by
    cases cs with
    | nil => simp [Ty.get] at hg
    | cons c cs =>
      cases vs with
      | nil => exact hv.elim
      | cons v vs =>
        simp only [Ty.get] at hg
        split at hg
        · rename_i xs hx
          simp at hg; obtain ⟨rfl, rfl⟩ := hg
          exact ⟨[v], vs, rfl, (VL.rows h hm hv.1 hx).mono (fun b hb => hb.mono fun n hn => by simp; exact .inl hn) fun _ _ => rfl, hv.2, _, (List.singleton_append).symm⟩
        · cases hg
end
end Go.Sh

namespace Go.Sh
open Go Go.RowKit

/-! ## The table of types -/
def Ty.zv : Ty → List Value
  | .int k => [.int k 0]
  | .bool => [.bool false]
  | .str => [.string ByteArray.empty]
  | .pair a b => a.zv ++ b.zv
  | .slice _ _ => [.slice none 0 0]

def isZero : Value → Value → Bool
  | .int k n, .int k' n' => k == k' && n == n'
  | .bool a, .bool b => a == b
  | .string a, .string b => a.size == 0 && b.size == 0
  | .slice none 0 0, .slice none 0 0 => true
  | _, _ => false

def areZero : List Value → List Value → Bool
  | [], [] => true
  | a :: x, b :: y => isZero a b && areZero x y
  | _, _ => false

theorem isZero_eq {a b : Value} (h : isZero a b = true) : a = b := by
  unfold isZero at h
  split at h
  · simp at h; simp [h]
  · simp at h; simp [h]
  · rename_i x y
    simp at h
    obtain ⟨h1, h2⟩ := h
    rw [h1, h2]
  · rfl
  · cases h

theorem areZero_eq : ∀ {x y : List Value}, areZero x y = true → x = y
  | [], [], _ => rfl
  | a :: x, b :: y, h => by
    simp only [areZero, Bool.and_eq_true] at h
    rw [isZero_eq h.1, areZero_eq h.2]

def zeroOk (agg : Bool) (t : Ty) : Option Value → Bool
  | some (.agg cs) => agg && areZero cs.toList t.zv
  | some v => !agg && areZero [v] t.zv
  | none => false

def Ty.desc : Ty → TypeDesc
  | .int k => .int k
  | .bool => .bool
  | .str => .string
  | .slice E _ => .slice E
  | .pair _ _ => .invalid

def descOk (i : TI) : TypeDesc → Bool
  | .struct fs => i.agg && (fs.toList.map fun f => (f.offset, f.type)) == i.fields && i.elem == none
  | .int k => !i.agg && i.ty == some (.int k) && i.elem == none && i.fields == []
  | .bool => !i.agg && i.ty == some .bool && i.elem == none && i.fields == []
  | .string => !i.agg && i.ty == some .str && i.elem == none && i.fields == []
  | .slice E => !i.agg && i.elem == some E && (match i.ty with | some (.slice E' _) => E' == E | none => true | _ => false) && i.fields == []
  | .array .. => false
  | _ => !i.agg && i.ty == none && i.elem == none && i.fields == []

def infoOk (i : TI) (f : TypeInfo) : Bool :=
  f.size == i.size && f.bytes == i.bytes && (i.agg || i.size == 1) &&
  (match i.ty with | some t => t.size == i.size && zeroOk i.agg t f.zero | none => true)

def tiOk (P : Program) (t : TypeId) (i : TI) : Bool :=
  (match P.underlying t with | some d => descOk i d | none => false) && (match P.info? t with | some f => infoOk i f | none => false)

/-- '==' of structs of this type goes cell by cell -/
def EqLaw (P : Program) (t : TypeId) (z : List LV) : Prop :=
  ∀ (w : World) (a b : List LV) (xs ys : List Value) (r : Bool) (o1 o2 : Operand), kindsOk z a = true → kindsOk z b = true → eqCells a b = some r → (∀ cx w, All2 (VL cx w) a xs → All2 (VL cx w) b ys →
    ((do eqGuard .eql t o1 o2 (.agg xs.toArray) (.agg ys.toArray); binOp .eql t (.agg xs.toArray) (.agg ys.toArray)) : Sem Value).run P w = .ok (.bool r) w ∧
    ((do eqGuard .neq t o1 o2 (.agg xs.toArray) (.agg ys.toArray); binOp .neq t (.agg xs.toArray) (.agg ys.toArray)) : Sem Value).run P w = .ok (.bool (!r)) w)

structure TabOk (P : Program) (E : Env) : Prop where
  ti : ∀ t i, E.ti t = some i → tiOk P t i = true
  eq : ∀ t i, E.ti t = some i → i.eq = true → ∀ ty, i.ty = some ty → EqLaw P t ty.zero

section
variable {P : Program} {E : Env} (hE : TabOk P E)
include hE

theorem TabOk.info {t : TypeId} {i : TI} (h : E.ti t = some i) : ∃ f, P.info? t = some f ∧ f.size = i.size ∧ f.bytes = i.bytes ∧ (i.agg = true ∨ i.size = 1) ∧
    ∀ ty, i.ty = some ty → ty.size = i.size ∧ ∃ z, f.zero = some z ∧ z.cells.toList = ty.zv ∧ (i.agg = false → ∃ u, z = u ∧ ty.zv = [u]) := by
  have h1 := hE.ti t i h
  unfold tiOk at h1
  simp only [Bool.and_eq_true] at h1
  obtain ⟨_, h2⟩ := h1
  split at h2
  · rename_i f hf
    unfold infoOk at h2
    simp only [Bool.and_eq_true, beq_iff_eq, Bool.or_eq_true] at h2
    obtain ⟨⟨⟨h3, h4⟩, h5⟩, h6⟩ := h2
    refine ⟨f, hf, h3, h4, h5, fun ty hty => ?_⟩
    rw [hty] at h6
    simp only [Bool.and_eq_true, beq_iff_eq] at h6
    refine ⟨h6.1, ?_⟩
    have h7 := h6.2
    unfold zeroOk at h7
    split at h7
    · rename_i cs hz
      simp only [Bool.and_eq_true] at h7
      refine ⟨_, hz, by simpa [Value.cells] using areZero_eq h7.2, fun ha => by simp [ha] at h7⟩
    · rename_i v hz hz'
      simp only [Bool.and_eq_true] at h7
      have e := areZero_eq h7.2
      refine ⟨v, hz', ?_, fun _ => ⟨v, rfl, e.symm⟩⟩
      cases v <;> simp_all [Value.cells]
    · cases h7
  · cases h2

theorem TabOk.desc {t : TypeId} {i : TI} (h : E.ti t = some i) : ∃ d, P.underlying t = some d ∧ descOk i d = true := by
  have h1 := hE.ti t i h
  unfold tiOk at h1
  simp only [Bool.and_eq_true] at h1
  obtain ⟨h2, _⟩ := h1
  split at h2
  · exact ⟨_, ‹_›, h2⟩
  · cases h2

theorem TabOk.agg {t : TypeId} {i : TI} (h : E.ti t = some i) (w : World) : (isAgg t).run P w = .ok i.agg w := by
  obtain ⟨d, hd, hk⟩ := hE.desc h
  unfold isAgg
  simp only [Sem.run_bind, run_underlying hd, Result.andThen_ok]
  cases d <;> simp [descOk] at hk <;> simp [hk]

theorem TabOk.size {t : TypeId} {i : TI} (h : E.ti t = some i) (w : World) : (sizeOf t).run P w = .ok i.size w := by
  obtain ⟨f, hf, e, _⟩ := hE.info h
  simp [sizeOf, typeInfo, hf, e]

theorem TabOk.struct {t : TypeId} {i : TI} (h : E.ti t = some i) (ha : i.agg = true) : ∃ fs, P.underlying t = some (.struct fs) ∧ (fs.toList.map fun f => (f.offset, f.type)) = i.fields := by
  obtain ⟨d, hd, hk⟩ := hE.desc h
  cases d <;> simp [descOk, ha] at hk
  exact ⟨_, hd, hk.1⟩

theorem TabOk.ty {t : TypeId} {i : TI} (h : E.ti t = some i) {ty : Ty} (hty : i.ty = some ty) (ha : i.agg = false) : P.underlying t = some ty.desc := by
  obtain ⟨d, hd, hk⟩ := hE.desc h
  cases d <;> simp [descOk, ha, hty] at hk
  · rw [hd, hk.1.1]; rfl
  · rw [hd, hk.1.1]; rfl
  · rw [hd, hk.1.1]; rfl
  · obtain ⟨⟨h1, h2⟩, _⟩ := hk
    split at h2
    · rename_i E' e' he; cases he; simp at h2; rw [hd, ← h2]; rfl
    · rename_i he; cases he
    · cases h2

theorem TabOk.slice {t el : TypeId} {ei : TI} {e : Ty} (h : elemOf E t = some (el, ei, e)) : P.underlying t = some (.slice el) ∧ E.ti el = some ei ∧ ei.ty = some e ∧ ei.bytes ≠ 0 := by
  unfold elemOf at h
  split at h
  · rename_i ti hti
    split at h
    · rename_i el' hel
      split at h
      · rename_i ei' hei
        split at h
        · rename_i e' he
          split at h
          · cases h
          rename_i hb
          simp at h; obtain ⟨rfl, rfl, rfl⟩ := h
          obtain ⟨d, hd, hk⟩ := hE.desc hti
          refine ⟨?_, hei, he, hb⟩
          cases d <;> simp [descOk, hel] at hk
          rw [hd, hk.1.1.2]
        · cases h
      · cases h
    · cases h
  · cases h

theorem TabOk.field {t : TypeId} {f o : Nat} {fi : TI} (h : fieldOf E t f = some (o, fi)) : ∃ ti fs fd, E.ti t = some ti ∧ P.underlying t = some (.struct fs) ∧ fs[f]? = some fd ∧ fd.offset = o ∧ E.ti fd.type = some fi ∧ fi.size ≠ 0 ∧ ti.fields[f]? = some (o, fd.type) := by
  unfold fieldOf at h
  split at h
  · cases h
  · rename_i ti hti
    split at h
    · cases h
    · rename_i o' ft hf
      split at h
      · cases h
      · rename_i fi' hfi
        split at h
        · cases h
        · rename_i hz
          simp at h; obtain ⟨rfl, rfl⟩ := h
          obtain ⟨d, hd, hk⟩ := hE.desc hti
          have hne : ti.fields ≠ [] := by intro e; simp [e] at hf
          have ha : ∃ fs, d = .struct fs ∧ (fs.toList.map fun f => (f.offset, f.type)) = ti.fields := by
            cases d <;> simp [descOk] at hk
            all_goals first | exact ⟨_, rfl, hk.1.2⟩ | exact absurd hk.2 hne
          obtain ⟨fs, rfl, hfs⟩ := ha
          rw [← hfs, List.getElem?_map] at hf
          cases hfd : fs.toList[f]? with
          | none => simp [hfd] at hf
          | some fd =>
            simp [hfd] at hf
            obtain ⟨rfl, rfl⟩ := hf
            exact ⟨ti, fs, fd, hti, hd, by simpa using hfd, rfl, hfi, hz, by rw [← hfs, List.getElem?_map, hfd]; rfl⟩
end
end Go.Sh

namespace Go.Sh
open Go Go.RowKit

/-! ## Operations that only compute -/
theorem ite_some {R : Type} {c : Prop} [Decidable c] {x : Option R} {r : R} (h : N.ite c none x = some r) : ¬ c ∧ x = some r := by
  unfold N.ite at h; split at h
  · cases h
  · exact ⟨‹_›, h⟩
theorem ite_some' {R : Type} {c : Prop} [Decidable c] {x : Option R} {r : R} (h : N.ite c x none = some r) : c ∧ x = some r := by
  unfold N.ite at h; split at h
  · exact ⟨‹_›, h⟩
  · cases h
theorem ite_neg {R : Type} {c : Prop} [Decidable c] {x y : Option R} (h : ¬ c) : N.ite c x y = y := if_neg h
theorem ite_pos {R : Type} {c : Prop} [Decidable c] {x y : Option R} (h : c) : N.ite c x y = x := if_pos h

theorem in3_some {R : Type} {l h n : Int} {x : Option R} {r : R} (hh : in3 l h n x = some r) : (0 ≤ l ∧ l ≤ h ∧ h ≤ n) ∧ x = some r := by
  unfold in3 at hh
  obtain ⟨h1, hh⟩ := ite_some' hh
  obtain ⟨h2, hh⟩ := ite_some' hh
  obtain ⟨h3, hh⟩ := ite_some' hh
  exact ⟨⟨h1, h2, h3⟩, hh⟩
theorem in3_pos {R : Type} {l h n : Int} {x : Option R} (hh : 0 ≤ l ∧ l ≤ h ∧ h ≤ n) : in3 l h n x = x := by
  unfold in3; rw [ite_pos hh.1, ite_pos hh.2.1, ite_pos hh.2.2]

/-- what a continuation is handed -/
def Hands (F : ∀ {R : Type}, (SV → Option R) → Option R) (sv : SV) : Prop := ∀ {R : Type} (K : SV → Option R), F K = K sv

section
variable {P : Program} {cx : Cx} {w : World} {R : Type} {r : R}

theorem run_binOp_int (op : BinOp) (t : TypeId) (k : IntKind) (a b : Int) (h1 : op ≠ .shl) (h2 : op ≠ .shr) : binOp op t (.int k a) (.int k b) =
    match op with | .add | .sub | .mul => Op.intArith op k a b | .quo | .rem => Op.intDiv op k a b | .and | .or | .xor | .andNot => Op.intBits op k a b | _ => Op.intCmp op a b := by
  cases op <;> first | contradiction | simp [binOp]

theorem binI_is {op : BinOp} {k : IntKind} {a b : Int} {K : SV → Option R} (t : TypeId) (h1 : op ≠ .shl) (h2 : op ≠ .shr) (h : binI op k a b K = some r) :
    ∃ sv, Hands (fun K => binI op k a b K) sv ∧ ∃ v, (binOp op t (.int k a) (.int k b)).run P w = .ok v w ∧ VR cx w sv v := by
  rw [run_binOp_int op t k a b h1 h2]
  cases op <;> simp only [binI] at h
  case quo =>
    obtain ⟨hb, _⟩ := ite_some h
    refine ⟨.lf (.int k (N.quo k a b)), fun K => by simp only [binI]; rw [ite_neg hb], .int k (N.quo k a b), ?_, rfl⟩
    simp only [Op.intDiv, if_neg hb]; rfl
  case rem =>
    obtain ⟨hb, _⟩ := ite_some h
    refine ⟨.lf (.int k (N.rem a b)), fun K => by simp only [binI]; rw [ite_neg hb], .int k (N.rem a b), ?_, rfl⟩
    simp only [Op.intDiv, if_neg hb]; rfl
  case add => exact ⟨.lf (.int k (N.add k a b)), fun K => rfl, .int k (N.add k a b), rfl, rfl⟩
  case sub => exact ⟨.lf (.int k (N.sub k a b)), fun K => rfl, .int k (N.sub k a b), rfl, rfl⟩
  case mul => exact ⟨.lf (.int k (N.mul k a b)), fun K => rfl, .int k (N.mul k a b), rfl, rfl⟩
  case and => exact ⟨.lf (.int k (N.and k a b)), fun K => rfl, .int k (N.and k a b), rfl, rfl⟩
  case or => exact ⟨.lf (.int k (N.or k a b)), fun K => rfl, .int k (N.or k a b), rfl, rfl⟩
  case xor => exact ⟨.lf (.int k (N.xor k a b)), fun K => rfl, .int k (N.xor k a b), rfl, rfl⟩
  case andNot => exact ⟨.lf (.int k (N.andNot k a b)), fun K => rfl, .int k (N.andNot k a b), rfl, rfl⟩
  case eql => exact ⟨.lf (.bool (N.eq a b)), fun K => rfl, .bool (N.eq a b), rfl, rfl⟩
  case neq => exact ⟨.lf (.bool (N.ne a b)), fun K => rfl, .bool (N.ne a b), rfl, rfl⟩
  case lss => exact ⟨.lf (.bool (N.lt a b)), fun K => rfl, .bool (N.lt a b), rfl, rfl⟩
  case leq => exact ⟨.lf (.bool (N.le a b)), fun K => rfl, .bool (N.le a b), rfl, rfl⟩
  case gtr => exact ⟨.lf (.bool (N.gt a b)), fun K => rfl, .bool (N.gt a b), rfl, rfl⟩
  case geq => exact ⟨.lf (.bool (N.ge a b)), fun K => rfl, .bool (N.ge a b), rfl, rfl⟩
  all_goals cases h

theorem shI_is {op : BinOp} {k k' : IntKind} {a b : Int} {K : SV → Option R} (t : TypeId) (h : shI op k a b K = some r) :
    ∃ sv, Hands (fun K => shI op k a b K) sv ∧ ∃ v, (binOp op t (.int k a) (.int k' b)).run P w = .ok v w ∧ VR cx w sv v := by
  unfold shI at h
  obtain ⟨hb, h⟩ := ite_some h
  cases op <;> simp only [] at h
  case shl => exact ⟨.lf (.int k (N.shl k a b)), fun K => by simp only [shI]; rw [ite_neg hb], .int k (N.shl k a b), by simp only [binOp, Op.shift, if_neg hb]; rfl, rfl⟩
  case shr => exact ⟨.lf (.int k (N.shr k a b)), fun K => by simp only [shI]; rw [ite_neg hb], .int k (N.shr k a b), by simp only [binOp, Op.shift, if_neg hb]; rfl, rfl⟩
  all_goals cases h

theorem binS_is {op : BinOp} {a b : ByteArray} {K : SV → Option R} (t : TypeId) (h : binS op a b K = some r) :
    ∃ sv, Hands (fun K => binS op a b K) sv ∧ ∃ v, (binOp op t (.string a) (.string b)).run P w = .ok v w ∧ VR cx w sv v := by
  cases op <;> simp only [binS] at h
  case add =>
    obtain ⟨hb, _⟩ := ite_some' h
    refine ⟨.lf (.str (N.cat a b)), fun K => by simp only [binS]; rw [ite_pos hb], .string (a ++ b), ?_, rfl⟩
    have hb' : ¬ ((a.size + b.size : Nat) : Int) > IntKind.i64.max := by
      unfold N.catFits at hb
      have : IntKind.i64.max = 9223372036854775807 := rfl
      omega
    simp only [binOp, Op.stringOp]
    rw [if_neg hb']
    rfl
  case eql => exact ⟨.lf (.bool (N.eqS a b)), fun K => rfl, .bool (N.eqS a b), rfl, rfl⟩
  case neq => exact ⟨.lf (.bool (N.neS a b)), fun K => rfl, .bool (N.neS a b), rfl, rfl⟩
  all_goals cases h

theorem eqGuard_plain (op : BinOp) (t : TypeId) (x y : Operand) {a b : Value} (ha : (match (a : Value) with | .nilIface | .agg _ => false | _ => true) = true) : (eqGuard op t x y a b).run P w = .ok () w := by
  unfold eqGuard
  cases a <;> simp at ha <;> cases op <;> simp

theorem binSV_is {E : Env} (hE : TabOk P E) {op : BinOp} {t : TypeId} {ti : TI} (ht : E.ti t = some ti) (hna : ti.agg = false) {x y : SV} {xv yv : Value} (ox oy : Operand) (hx : VR cx w x xv) (hy : VR cx w y yv) {K : SV → Option R} (h : binSV ti op x y K = some r) :
    ∃ sv, Hands (fun K => binSV ti op x y K) sv ∧ ∃ v, (do eqGuard op t ox oy xv yv; binOp op t xv yv : Sem Value).run P w = .ok v w ∧ VR cx w sv v := by
  unfold binSV at h
  split at h
  · rename_i k a k' b
    cases hx; cases hy
    have hg : (eqGuard op t ox oy (.int k a) (.int k' b)).run P w = .ok () w := eqGuard_plain op t ox oy rfl
    simp only [Sem.run_bind, hg, Result.andThen_ok]
    split at h
    · obtain ⟨sv, h1, h2⟩ := shI_is (P := P) (cx := cx) (w := w) (k' := k') t h; exact ⟨sv, fun K => by simp only [binSV]; exact h1 K, h2⟩
    · obtain ⟨sv, h1, h2⟩ := shI_is (P := P) (cx := cx) (w := w) (k' := k') t h; exact ⟨sv, fun K => by simp only [binSV]; exact h1 K, h2⟩
    · rename_i hn1 hn2
      split at h
      · rename_i hk; subst hk
        obtain ⟨sv, h1, h2⟩ := binI_is (P := P) (cx := cx) (w := w) t hn1 hn2 h
        refine ⟨sv, fun K => ?_, h2⟩
        have := h1 K
        unfold binSV
        cases op <;> first | contradiction | (simp only [if_true]; exact this)
      · cases h
  · rename_i a b
    cases hx; cases hy
    have hg : (eqGuard op t ox oy (.bool a) (.bool b)).run P w = .ok () w := eqGuard_plain op t ox oy rfl
    simp only [Sem.run_bind, hg, Result.andThen_ok]
    split at h
    case isFalse => cases h
    rename_i hty
    have hu := hE.ty ht hty hna
    split at h
    · exact ⟨.lf (.bool (N.eqB a b)), fun K => by simp only [binSV]; rw [if_pos hty], .bool (a == b), by simp only [binOp, Sem.run_bind, run_equal_bool w t a b hu, Result.andThen_ok, Sem.run_pure], rfl⟩
    · exact ⟨.lf (.bool (N.neB a b)), fun K => by simp only [binSV]; rw [if_pos hty], .bool (!(a == b)), by simp only [binOp, Sem.run_bind, run_equal_bool w t a b hu, Result.andThen_ok, Sem.run_pure], rfl⟩
    · cases h
  · rename_i a b
    cases hx; cases hy
    have hg : (eqGuard op t ox oy (.string a) (.string b)).run P w = .ok () w := eqGuard_plain op t ox oy rfl
    simp only [Sem.run_bind, hg, Result.andThen_ok]
    obtain ⟨sv, h1, h2⟩ := binS_is (P := P) (cx := cx) (w := w) t h
    exact ⟨sv, fun K => by simp only [binSV]; exact h1 K, h2⟩
  · cases h

theorem binAgg_is {ti : TI} {op : BinOp} {t : TypeId} (hq : ∀ ty, ti.ty = some ty → EqLaw P t ty.zero) {x y : SV} {xv yv : Value} (ox oy : Operand) (hx : VR cx w x xv) (hy : VR cx w y yv) {K : SV → Option R} (h : binAgg ti op x y K = some r) :
    ∃ sv, Hands (fun K => binAgg ti op x y K) sv ∧ ∃ v, (do eqGuard op t ox oy xv yv; binOp op t xv yv : Sem Value).run P w = .ok v w ∧ VR cx w sv v := by
  unfold binAgg at h
  split at h
  · rename_i a b ty hty
    obtain ⟨xs, rfl, hxs⟩ := hx
    obtain ⟨ys, rfl, hys⟩ := hy
    split at h
    · rename_i hk
      have hk2 := hk
      simp only [Bool.and_eq_true] at hk2
      split at h
      · split at h
        · rename_i q hq'
          exact ⟨.lf (.bool q), fun K => by simp only [binAgg, hty, hq']; rw [if_pos hk], _, (hq ty hty w a b xs ys q ox oy hk2.1 hk2.2 hq' cx w hxs hys).1, rfl⟩
        · cases h
      · split at h
        · rename_i q hq'
          exact ⟨.lf (.bool (N.not q)), fun K => by simp only [binAgg, hty, hq']; rw [if_pos hk], _, (hq ty hty w a b xs ys q ox oy hk2.1 hk2.2 hq' cx w hxs hys).2, rfl⟩
        · cases h
      · cases h
    · cases h
  · cases h

theorem nilSV_is {E : Env} (hE : TabOk P E) {t : TypeId} (he : (elemOf E t).isSome = true) (ox oy : Operand) {x : SV} {xv : Value} (hx : VR cx w x xv) {K : SV → Option R} (h : nilSV x K = some r) :
    ∃ sv, Hands (fun K => nilSV x K) sv ∧ ∃ v, (do eqGuard .eql t ox oy xv (.slice none 0 0); binOp .eql t xv (.slice none 0 0) : Sem Value).run P w = .ok v w ∧ VR cx w sv v := by
  obtain ⟨⟨el, ei, e0⟩, hel⟩ := Option.isSome_iff_exists.1 he
  have hu : P.underlying t = some (.slice el) := (hE.slice hel).1
  have key : ∀ A l c, (do eqGuard .eql t ox oy (.slice A l c) (.slice none 0 0); binOp .eql t (.slice A l c) (.slice none 0 0) : Sem Value).run P w = .ok (.bool A.isNone) w := fun A l c => by
    have hg : (eqGuard .eql t ox oy (.slice A l c) (.slice none 0 0)).run P w = .ok () w := eqGuard_plain .eql t ox oy rfl
    simp only [Sem.run_bind, hg, Result.andThen_ok, binOp, Op.equal, Op.maxDepth, run_equalIn_slice_nil w 9999 t el A l c hu, Sem.run_pure]
  unfold nilSV at h
  split at h
  · rename_i E' e xs
    obtain ⟨A, cap, e1, _, hall⟩ := hx
    simp only [List.cons.injEq, and_true] at e1
    subst e1
    refine ⟨.lf (.isnil (N.isE xs)), fun K => rfl, _, key _ _ _, A.isNone, rfl, fun hA => ?_⟩
    cases xs with
    | nil => rfl
    | cons y ys =>
      obtain ⟨b, o, ci, e2, _⟩ := hall 0 (by simp)
      rw [e2] at hA; cases hA
  · obtain ⟨A, rfl⟩ := hx
    exact ⟨.lf (.isnil true), fun K => rfl, _, key _ _ _, A.isNone, rfl, fun _ => rfl⟩
  · cases h

theorem unSV_is {op : UnOp} {x : SV} {xv : Value} (hx : VR cx w x xv) {K : SV → Option R} (h : unSV op x K = some r) :
    ∃ sv, Hands (fun K => unSV op x K) sv ∧ ∃ v, (Op.unary op xv).run P w = .ok v w ∧ VR cx w sv v := by
  unfold unSV at h
  split at h
  · rename_i b; cases hx; exact ⟨.lf (.bool (N.not b)), fun K => rfl, .bool (!b), rfl, rfl⟩
  · rename_i k n; cases hx; exact ⟨.lf (.int k (N.sub k 0 n)), fun K => rfl, .int k (N.sub k 0 n), rfl, rfl⟩
  · cases h

theorem indexSV_is {E : Env} (hE : TabOk P E) {t : TypeId} {ti : TI} (ht : E.ti t = some ti) (hna : ti.agg = false) (hty : ti.ty = some .str) {x i : SV} {xv iv : Value} (hx : VR cx w x xv) (hi : VR cx w i iv) {K : SV → Option R} (h : indexSV x i K = some r) :
    ∃ sv, Hands (fun K => indexSV x i K) sv ∧ ∃ v, (Instr.index t xv iv).run P w = .ok v w ∧ VR cx w sv v := by
  unfold indexSV at h
  split at h
  · rename_i s k i
    cases hx; cases hi
    obtain ⟨h1, h⟩ := ite_some' h
    obtain ⟨h2, h⟩ := ite_some' h
    refine ⟨.lf (.int .u8 (N.bt s i)), fun K => by simp only [indexSV]; rw [ite_pos h1, ite_pos h2], .int .u8 (N.bt s i), ?_, rfl⟩
    have hu := hE.ty ht hty hna
    have hlt : i.toNat < s.size := by unfold N.slen at h2; omega
    simp only [Instr.index, Sem.run_bind, asIntOf, Sem.run_pure, Result.andThen_ok, run_underlying hu, Ty.desc, h1, if_true]
    simp [N.bt, hlt]
  · cases h

def IntOpt : Option Value → Option Int → Prop
  | none, none => True
  | some v, some x => ∃ k, v = .int k x
  | _, _ => False

theorem bound_opt {lo : Option SV} {lv : Option Value} {l : Option Int} (h : boundSV lo = some l) (hv : match lo, lv with | none, none => True | some a, some b => VR cx w a b | _, _ => False) : IntOpt lv l := by
  cases lo with
  | none => cases lv with
    | none => simp [boundSV] at h; subst h; trivial
    | some _ => exact hv.elim
  | some a => cases lv with
    | none => exact hv.elim
    | some b =>
      cases a <;> simp [boundSV] at h
      rename_i c; cases c <;> simp [boundSV] at h
      subst h
      exact ⟨_, hv⟩

theorem run_bounds (isSlice : Bool) (len cap : Nat) {lv hv : Option Value} {l h : Option Int} (hl : IntOpt lv l) (hh : IntOpt hv h) (h0 : 0 ≤ l.getD 0) (h1 : l.getD 0 ≤ h.getD (len : Int)) (h2 : h.getD (len : Int) ≤ (cap : Int)) :
    (Instr.sliceBounds isSlice len cap lv hv none).run P w = .ok ((l.getD 0).toNat, (h.getD (len : Int)).toNat, cap) w := by
  cases lv with
  | none => cases l with
    | some _ => exact hl.elim
    | none => cases hv with
      | none => cases h with
        | some _ => exact hh.elim
        | none => simp [Instr.sliceBounds]
      | some b => cases h with
        | none => exact hh.elim
        | some y =>
          obtain ⟨k, rfl⟩ := hh
          simp only [Option.getD_some, Option.getD_none] at h0 h1 h2
          simp [Instr.sliceBounds, run_sliceBound w k y cap _ (by omega) h2]
  | some a => cases l with
    | none => exact hl.elim
    | some x =>
      obtain ⟨k, rfl⟩ := hl
      cases hv with
      | none => cases h with
        | some _ => exact hh.elim
        | none =>
          simp only [Option.getD_some, Option.getD_none] at h0 h1 h2
          simp [Instr.sliceBounds, run_sliceBound w k x len _ h0 h1]
      | some b => cases h with
        | none => exact hh.elim
        | some y =>
          obtain ⟨k', rfl⟩ := hh
          simp only [Option.getD_some, Option.getD_none] at h0 h1 h2
          simp [Instr.sliceBounds, run_sliceBound w k' y cap _ (by omega) h2, run_sliceBound w k x y.toNat _ h0 (by omega)]

theorem sliceStr_is {E : Env} (hE : TabOk P E) {t : TypeId} {ti : TI} (ht : E.ti t = some ti) (hna : ti.agg = false) (hty : ti.ty = some .str) {s : ByteArray} {lv hv : Option Value} {l h' : Option Int}
    (hl : IntOpt lv l) (hh : IntOpt hv h') {K : SV → Option R} (h : sliceStr s l h' K = some r) :
    ∃ sv, Hands (fun K => sliceStr s l h' K) sv ∧ ∃ v, (Instr.sliceAt t (.string s) lv hv none).run P w = .ok v w ∧ VR cx w sv v := by
  unfold sliceStr at h
  obtain ⟨hc, _⟩ := in3_some h
  refine ⟨.lf (.str (N.scut s (l.getD 0) (h'.getD (N.slen s)))), fun K => by simp only [sliceStr]; rw [in3_pos hc], .string (s.extract (l.getD 0).toNat (h'.getD (N.slen s)).toNat), ?_, rfl⟩
  have hu := hE.ty ht hty hna
  unfold N.slen at hc ⊢
  have hb := run_bounds (P := P) (w := w) false s.size s.size hl hh hc.1 hc.2.1 hc.2.2
  simp only [Instr.sliceAt, Sem.run_bind, run_underlying hu, Ty.desc, Result.andThen_ok, Instr.slice, Option.isSome_none, Bool.false_eq_true, if_false, Sem.run_pure, hb, Sem.run_ite, ite_false, ite_self]

/-! ### Structs, fields, places -/
theorem VP.pack {agg : Bool} {cs : List LV} {v : Value} (h : VP cx w agg cs v) : VR cx w (pack agg cs) v := by
  unfold VP at h
  cases agg with
  | true => simp only [if_true] at h; exact h
  | false =>
    simp only [Bool.false_eq_true, if_false] at h
    obtain ⟨c, rfl, h⟩ := h
    exact h

/-- a part of cells, as a value of the type -/
theorem VP_span {E : Env} (hE : TabOk P E) {t : TypeId} {ti : TI} (ht : E.ti t = some ti) {cs : List LV} {vs : List Value} (h : All2 (VL cx w) cs vs) (o : Nat) (hle : o + ti.size ≤ cs.length) :
    ∃ v, VR cx w (pack ti.agg (span cs o ti.size)) v ∧ (ti.agg = true → v = .agg ((vs.drop o).take ti.size).toArray) ∧ (ti.agg = false → ∃ u, vs[o]? = some u ∧ v = u) := by
  have hsp : All2 (VL cx w) (span cs o ti.size) ((vs.drop o).take ti.size) := (h.drop o).take ti.size
  have hlen := h.len
  cases ha : ti.agg with
  | true => exact ⟨_, ⟨_, rfl, hsp⟩, fun _ => rfl, fun h => by cases h⟩
  | false =>
    obtain ⟨f, _, _, _, h1, _⟩ := hE.info ht
    have hs1 : ti.size = 1 := h1.resolve_left (by simp [ha])
    rw [hs1] at hsp hle
    have ho : o < cs.length := by omega
    have e1 : span cs o 1 = [cs[o]] := by
      unfold span; rw [List.drop_eq_getElem_cons ho]; rfl
    have e2 : (vs.drop o).take 1 = [vs[o]'(by omega)] := by rw [List.drop_eq_getElem_cons (by omega)]; rfl
    rw [hs1, e1]
    rw [e1, e2] at hsp
    refine ⟨vs[o]'(by omega), hsp.1, fun h => (by cases h), fun _ => ⟨vs[o]'(by omega), List.getElem?_eq_getElem _, rfl⟩⟩

theorem fieldSV_is {E : Env} (hE : TabOk P E) {t : TypeId} {f : Nat} {x : SV} {xv : Value} (hx : VR cx w x xv) {K : SV → Option R} (h : fieldSV E t x f K = some r) :
    ∃ sv, Hands (fun K => fieldSV E t x f K) sv ∧ ∃ v, (Instr.field t xv f).run P w = .ok v w ∧ VR cx w sv v := by
  unfold fieldSV at h
  split at h
  · cases h
  · rename_i o fi hf
    split at h
    · rename_i cs
      split at h
      · rename_i hle
        obtain ⟨ti, fs, fd, h1, h2, h3, h4, h5, h6, h7⟩ := hE.field hf
        obtain ⟨vs, rfl, hvs⟩ := hx
        obtain ⟨v, hv, ha, hna⟩ := VP_span hE h5 hvs o hle
        refine ⟨_, fun K => by simp only [fieldSV, hf]; rw [if_pos hle], v, ?_, hv⟩
        simp only [Instr.field, Sem.run_bind, run_underlying h2, Result.andThen_ok, h3, asAgg, Sem.run_pure, part, hE.agg h5, h4]
        cases hag : fi.agg with
        | true =>
          simp only [if_true, Sem.run_bind, hE.size h5, Result.andThen_ok, Sem.run_pure, ha hag]
          congr 2
          apply Array.ext'
          simp [List.extract_eq_take_drop, List.take_drop]
        | false =>
          obtain ⟨u, hu, rfl⟩ := hna hag
          simp [hu]
      · cases h
    · cases h

theorem fieldAddrSV_is {E : Env} (hE : TabOk P E) {t : TypeId} {f : Nat} {x : SV} {xv : Value} (hx : VR cx w x xv) {K : SV → Option R} (h : fieldAddrSV E t x f K = some r) :
    ∃ sv, Hands (fun K => fieldAddrSV E t x f K) sv ∧ ∃ v, (Instr.fieldAt t xv f).run P w = .ok v w ∧ VR cx w sv v := by
  unfold fieldAddrSV at h
  split at h
  · cases h
  · rename_i o fi hf
    obtain ⟨ti, fs, fd, h1, h2, h3, h4, h5, h6, h7⟩ := hE.field hf
    have key : ∀ b p, (Instr.fieldAt t (.pointer (some ⟨b, p, none⟩)) f).run P w = .ok (.pointer (some ⟨b, p + o, none⟩)) w := fun b p => by
      simp only [Instr.fieldAt, Sem.run_bind, run_underlying h2, Result.andThen_ok, h3, Instr.sureAddr, Sem.run_pure, fieldPlace, hE.size h5, if_neg h6, h4]
      unfold Addr.add
      split
      · rename_i h0; simp [h0]
      · rfl
    split at h
    · rename_i n p
      obtain ⟨g, e, rfl⟩ := hx
      exact ⟨.lf (.ptr n (p + o)), fun K => by simp only [fieldAddrSV, hf], _, key g p, g, e, rfl⟩
    · rename_i n i p
      obtain ⟨g, cap, e, h8, h9, rfl⟩ := hx
      exact ⟨.lf (.vptr n i (p + o)), fun K => by simp only [fieldAddrSV, hf], _, key g _, g, cap, e, h8, h9, by rw [Nat.add_assoc]⟩
    · rename_i ty y p
      obtain ⟨b, q, vs, rfl, h8, h9, h10⟩ := hx
      exact ⟨.lf (.cptr ty y (p + o)), fun K => by simp only [fieldAddrSV, hf], _, key b _, b, q, vs, by rw [Nat.add_assoc], h8, h9, h10⟩
    · cases h

theorem run_indexAt_slice {t el : TypeId} (hu : P.underlying t = some (.slice el)) {sz : Nat} (hs : (sizeOf el).run P w = .ok sz w) (b o len cap : Nat) (k : IntKind) (i : Int) (h0 : 0 ≤ i) (h1 : i < (len : Int)) :
    (Instr.indexAt t (.slice (some ⟨b, o, none⟩) len cap) (.int k i)).run P w = .ok (.pointer (some ⟨b, o + i.toNat * sz, none⟩)) w := by
  simp only [Instr.indexAt, Sem.run_bind, asIntOf, Sem.run_pure, Result.andThen_ok, run_underlying hu, h0, h1, and_self, if_true, hs]
  unfold Addr.add
  split
  · rename_i h; simp [h]
  · rfl
end
end Go.Sh

namespace Go.Sh
open Go Go.RowKit

/-! ## Operations that read memory -/
section
variable {P : Program} {E : Env} {cx : Cx} {w : World} {R : Type} {r : R} {G : Base} {N0 : Nat} {H Hm : Heap}

/-- a native value's cells mean what its reading tells -/
theorem sv_sound : ∀ {t : Ty} {vs : List Value} {x : t.den}, Rd w cx.S t vs x → All2 (VL cx w) (t.sv x) vs
  | .int _, _, _, h => by cases h; exact ⟨rfl, trivial⟩
  | .bool, _, _, h => by cases h; exact ⟨rfl, trivial⟩
  | .str, _, _, h => by cases h; exact ⟨rfl, trivial⟩
  | .pair a b, _, _, h => by obtain ⟨c1, c2, rfl, h1, h2⟩ := h; exact (sv_sound h1).append (sv_sound h2)
  | .slice E e, _, _, h => by
    have h' := h
    obtain ⟨A, cap, rfl, _⟩ := h
    exact ⟨h', trivial⟩

theorem svD_sound (n ver : Nat) (i : Int) : ∀ (o : Nat) {t : Ty} {vs : List Value} {x : t.den} {bs : List Nat}, ver = (cx.μ n).ver → (∀ b ∈ bs, b ∈ (cx.μ n).foot) → (∀ j u, vs[j]? = some u → At w (cx.μ n) i (o + j) u) → Ow w t vs x bs → All2 (VL cx w) (t.svD n ver i o x) vs
  | _, .int _, _, _, _, _, _, _, h => by rw [h.1]; exact ⟨rfl, trivial⟩
  | _, .bool, _, _, _, _, _, _, h => by rw [h.1]; exact ⟨rfl, trivial⟩
  | _, .str, _, _, _, _, _, _, h => by rw [h.1]; exact ⟨rfl, trivial⟩
  | o, .pair a b, _, _, _, hv, hb, hat, h => by
    obtain ⟨c1, c2, b1, b2, rfl, rfl, h1, h2⟩ := h
    have hl := h1.size
    refine (svD_sound n ver i o hv (fun b hbb => hb b (by simp [hbb])) (fun j u hu => hat j u ?_) h1).append (svD_sound n ver i (o + a.size) hv (fun b hbb => hb b (by simp [hbb])) (fun j u hu => ?_) h2)
    · rw [List.getElem?_append_left (List.getElem?_eq_some_iff.1 hu).1]; exact hu
    · rw [Nat.add_assoc]
      refine hat (a.size + j) u ?_
      rw [List.getElem?_append_right (by omega), hl, Nat.add_sub_cancel_left]; exact hu
  | o, .slice E e, _, _, bs, hv, hb, hat, h => by
    obtain ⟨v, rfl, hr⟩ := h
    obtain ⟨A, cap, e1, _⟩ := hr.slice
    refine ⟨⟨by omega, fun _ => ⟨?_, hat 0 v rfl⟩, ⟨A, _, cap, e1⟩, A, cap, e1⟩, trivial⟩
    exact (Ow.rd (t := .slice E e) ⟨v, rfl, hr⟩ (F := (· ∈ bs)) fun b hb => hb).mono hb fun _ _ => rfl

theorem El.cells [Laid] {d : Bool} {e : Ty} {c : List Value} {x : e.den} {bs : List Nat} (n ver : Nat) (i : Int) (hv : ver = (cx.μ n).ver) (hb : ∀ b ∈ bs, b ∈ (cx.μ n).foot) (hat : ∀ j u, c[j]? = some u → At w (cx.μ n) i j u) (h : El w cx.S d e c x bs) : All2 (VL cx w) (elemCells n ver i e d x) c := by
  unfold elemCells
  unfold El at h
  split at h
  · rename_i hd
    split
    · exact svD_sound n ver i 0 hv hb (fun j u hu => by rw [Nat.zero_add]; exact hat j u hu) h
    · rename_i hf
      simp [hd] at hf
      have := h.flat hf
      subst this
      exact sv_sound (h.rd (F := cx.S) fun b hb => by cases hb)
  · rename_i hd
    simp [hd]
    exact sv_sound h.1

theorem rd_getD {α : Type} (xs : List α) (i : Int) (d : α) (h0 : 0 ≤ i) (h1 : i < (xs.length : Int)) : N.rd xs i d = xs[i.toNat]'(by omega) := by
  unfold N.rd; rw [List.getD_eq_getElem?_getD, List.getElem?_eq_getElem (by omega)]; rfl

theorem run_loadVar (hE : TabOk P E) {t : TypeId} {ti : TI} (ht : E.ti t = some ti) {b o : Nat} {vs : List Value} {off : Nat} (hle : off + ti.size ≤ vs.length) (hc : ∀ j u, vs[j]? = some u → w.cell? ⟨b, o + j, none⟩ = some u)
    {v : Value} (ha : ti.agg = true → v = .agg ((vs.drop off).take ti.size).toArray) (hna : ti.agg = false → ∃ u, vs[off]? = some u ∧ v = u) :
    (Instr.loadAt t (.pointer (some ⟨b, o + off, none⟩))).run P w = .ok v w := by
  simp only [Instr.loadAt, Sem.run_bind, Instr.sureAddr, Sem.run_pure, Result.andThen_ok, loadVar, hE.agg ht]
  cases hag : ti.agg with
  | true =>
    simp only [if_true, Sem.run_bind, hE.size ht, Result.andThen_ok]
    have hl : ((vs.drop off).take ti.size).length = ti.size := by simp; omega
    have := run_loadCells_list (P := P) w ⟨b, o + off, none⟩ ((vs.drop off).take ti.size) fun j u hu => by
      rw [List.getElem?_take] at hu
      split at hu
      · rw [List.getElem?_drop] at hu
        have h1 := hc (off + j) u hu
        unfold Addr.add
        split
        · rename_i h0; subst h0; simpa using h1
        · simpa [Nat.add_assoc] using h1
      · cases hu
    rw [hl] at this
    simp only [this, Result.andThen_ok, Sem.run_pure, ha hag]
  | false =>
    obtain ⟨u, hu, rfl⟩ := hna hag
    simp only [Bool.false_eq_true, if_false, run_load, hc off _ hu]

theorem loadSV_is [Laid] (hE : TabOk P E) (h : RH G N0 H cx w) (hm : ∀ n o, Hm n = some o → H n = some o) {t : TypeId} {a : SV} {av : Value} (hav : VR cx w a av) {K : SV → Option R} (hh : loadSV E Hm t a K = some r) :
    ∃ sv, Hands (fun K => loadSV E Hm t a K) sv ∧ ∃ v, (Instr.loadAt t av).run P w = .ok v w ∧ VR cx w sv v := by
  unfold loadSV at hh
  split at hh
  · cases hh
  · rename_i ti ht
    split at hh
    · rename_i n o
      split at hh
      · rename_i cs hn
        split at hh
        · rename_i hle
          obtain ⟨g, e, rfl⟩ := hav
          obtain ⟨g', cur, T, e1, e2, e3, hcs⟩ := h.ob n _ (hm _ _ hn)
          rw [e] at e1
          simp only [Value.pointer.injEq, Option.some.injEq, Addr.mk.injEq, and_true] at e1
          subst e1
          obtain ⟨v, hv, ha, hna⟩ := VP_span hE ht hcs o hle
          refine ⟨_, fun K => by simp only [loadSV, ht, hn]; rw [if_pos hle], v, ?_, hv⟩
          have := run_loadVar hE ht (w := w) (b := g) (o := 0) (vs := cur.toList) (off := o) (by rw [← hcs.len]; exact hle) (fun j u hu => by rw [Nat.zero_add]; simp [World.cell?, e3]; simpa using hu) ha hna
          simpa using this
        · cases hh
      · cases hh
    · rename_i n i o
      split at hh
      · rename_i T e d ver xs hn
        split at hh
        · rename_i hle
          obtain ⟨g, cap, e1, h0, h1, rfl⟩ := hav
          obtain ⟨hver, hl, hes, hrow⟩ := h.ob n _ (hm _ _ hn)
          rw [hl] at h1 e1
          obtain ⟨g', cap', ci, bi, e2, _, hg, hbi, hEl, hcell⟩ := hrow.cell e.size_pos (fun _ _ _ h => h.size) (i := i.toNat) (by omega)
          rw [e2] at e1
          simp only [Value.slice.injEq, Option.some.injEq, Addr.mk.injEq, and_true] at e1
          obtain ⟨rfl, _, _⟩ := e1
          rw [rd_getD xs i _ h0 h1] at hh
          have hcs := El.cells n ver i hver hbi (fun j u hu => ⟨h0, by rw [hl]; exact h1, _, _, by rw [hl]; exact e2, hg, by
            rw [hes, ← hEl.size (d := d)]; exact (List.getElem?_eq_some_iff.1 hu).1, by rw [hes]; exact hcell j u hu⟩) hEl
          have hsz : (elemCells n ver i e d (xs[i.toNat]'(by omega))).length = e.size := by rw [hcs.len]; exact hEl.size
          obtain ⟨v, hv, ha, hna⟩ := VP_span hE ht hcs o (by rw [hsz]; exact hle)
          refine ⟨pack ti.agg (span (elemCells n ver i e d (xs[i.toNat]'(by omega))) o ti.size), fun K => by simp only [loadSV, ht, hn]; rw [if_pos hle, rd_getD xs i _ h0 h1], v, ?_, hv⟩
          rw [hes]
          exact run_loadVar hE ht (by rw [hEl.size]; exact hle) hcell ha hna
        · cases hh
      · cases hh
    · rename_i ty y o
      split at hh
      · rename_i hle
        obtain ⟨b, p, vs, rfl, hb, hr, hcell⟩ := hav
        have hcs := sv_sound (cx := cx) hr
        have hsz : (ty.sv y).length = ty.size := by rw [hcs.len]; exact hr.size
        obtain ⟨v, hv, ha, hna⟩ := VP_span hE ht hcs o (by rw [hsz]; exact hle)
        refine ⟨_, fun K => by simp only [loadSV, ht]; rw [if_pos hle], v, ?_, hv⟩
        exact run_loadVar hE ht (by rw [hr.size]; exact hle) hcell ha hna
      · cases hh
    · cases hh

theorem lenSV_is [Laid] (oty : TypeId) (hE : TabOk P E) (h : RH G N0 H cx w) (hm : ∀ n o, Hm n = some o → H n = some o) {t : TypeId} {ti : TI} (ht : E.ti t = some ti) {x : SV} {xv : Value} (hx : VR cx w x xv) (hty : (∃ s, x = .lf (.str s)) → ti.ty = some .str) (hty' : (∃ e, ti.ty = some e) ) (hsl : (¬ ∃ s, x = .lf (.str s)) → ∃ el, P.underlying t = some (.slice el)) (hna : ti.agg = false)
    {K : Int → Option R} (hh : lenSV Hm x K = some r) :
    ∃ n : Int, (∀ {R : Type} (K : Int → Option R), lenSV Hm x K = K n) ∧ (Builtin.len_ #[t] oty #[xv]).run P w = .ok (.int .i64 n) w := by
  unfold lenSV at hh
  have key : ∀ A l c, xv = .slice A l c → (¬ ∃ s, x = .lf (.str s)) → (Builtin.len_ #[t] oty #[xv]).run P w = .ok (.int .i64 l) w := fun A l c e hs => by
    obtain ⟨el, hu⟩ := hsl hs
    subst e
    simp [Builtin.len_, run_underlying hu, goInt]
  split at hh
  · rename_i s
    cases hx
    refine ⟨N.slen s, fun K => rfl, ?_⟩
    have hu := hE.ty ht (hty ⟨s, rfl⟩) hna
    simp [Builtin.len_, run_underlying hu, Ty.desc, goInt, N.slen]
  · obtain ⟨A, rfl⟩ := hx
    exact ⟨0, fun K => rfl, key A 0 0 rfl (by rintro ⟨s, hs⟩; cases hs)⟩
  · rename_i E' e xs
    obtain ⟨A, cap, e1, _⟩ := hx
    simp at e1
    exact ⟨N.len xs, fun K => rfl, key A _ _ e1 (by rintro ⟨s, hs⟩; cases hs)⟩
  · rename_i n
    split at hh
    · rename_i o hn
      split at hh
      · rename_i l hl
        refine ⟨l, fun K => by simp only [lenSV, hn, hl], ?_⟩
        have hob := h.ob n _ (hm _ _ hn)
        cases o with
        | box => simp [Ob.len] at hl
        | vec E' e d ver xs =>
          simp [Ob.len] at hl; subst hl
          obtain ⟨A, cap, e1, _⟩ := hob.2.2.2.slice
          exact key A _ cap (hx.1.trans e1) (by rintro ⟨s, hs⟩; cases hs)
        | fro E' e xs =>
          simp [Ob.len] at hl; subst hl
          obtain ⟨A, cap, e1, _⟩ := hob.2.2.2
          simp at e1
          exact key A _ cap (hx.1.trans e1) (by rintro ⟨s, hs⟩; cases hs)
      · cases hh
    · cases hh
  · rename_i n lo hi
    obtain ⟨h0, h1, h2, A, cap, A', e1, e2, rfl, _⟩ := hx
    refine ⟨N.diff hi lo, fun K => rfl, ?_⟩
    have := key A' (hi - lo).toNat (cap - lo.toNat) rfl (by rintro ⟨s, hs⟩; cases hs)
    rw [this]; unfold N.diff; congr 2; omega
  · rename_i n ver i off E' e xs
    obtain ⟨_, _, _, A, c, e1⟩ := hx
    exact ⟨N.len xs, fun K => rfl, key A _ c e1 (by rintro ⟨s, hs⟩; cases hs)⟩
  · cases hh
end
end Go.Sh

