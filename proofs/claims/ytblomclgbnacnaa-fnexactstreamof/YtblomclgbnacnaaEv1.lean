/- An evaluator for the code of the program, and the proof that what it answers is true (part 1). -/
import Derived.Calls
import Derived.KernelRfl
import Derived.Laws.Sem
import Derived.WalkKit
import Derived.Laws.IdiomCopy
import Derived.Laws.BytesString
set_option linter.unusedVariables false
set_option linter.unusedSimpArgs false
namespace Go.Evr

/-- The kinds of data. A struct is 'st' of a chain of pairs that ends in 'unit'. -/
inductive Ty where
  | int (k : IntKind)
  | bool
  | str
  | sl (e : Ty)
  | unit
  | pair (a b : Ty)
  | st (t : Ty)
  | ref
  deriving DecidableEq

@[reducible] def Ty.den : Ty → Type
  | .int _ => Int
  | .bool => Bool
  | .str => ByteArray
  | .sl e => List e.den
  | .unit => Unit
  | .pair a b => a.den × b.den
  | .st t => t.den
  | .ref => Unit

def Ty.cells : Ty → Nat
  | .int _ | .bool | .str | .sl _ | .ref => 1
  | .unit => 0
  | .pair a b => a.cells + b.cells
  | .st t => t.cells

def Ty.zero : (t : Ty) → t.den
  | .int _ => (0 : Int)
  | .bool => false
  | .str => ByteArray.empty
  | .sl _ => []
  | .unit => ()
  | .pair a b => (a.zero, b.zero)
  | .st t => t.zero
  | .ref => ()

/-- Whether a slice lies in it. -/
def Ty.deep : Ty → Bool
  | .sl _ => true
  | .pair a b => a.deep || b.deep
  | .st t => t.deep
  | _ => false

def Ty.cast (a b : Ty) (x : a.den) : Option b.den := if h : a = b then some (h ▸ x) else none

/-- The field of a struct: where it begins, and its kind. -/
def Ty.fieldOf : Ty → Nat → Option (Nat × Ty)
  | .pair a _, 0 => some (0, a)
  | .pair a b, i + 1 => match b.fieldOf i with
    | some (o, t) => some (a.cells + o, t)
    | none => none
  | _, _ => none

/-- Where a slice that was read lies: in the arrays of an object (and its state), at an element and a cell. -/
abbrev Tag := Option ((Nat × Nat) × Option (Nat × Nat))

/-- Values as they are reckoned with. -/
inductive FV where
  | bad
  | int (k : IntKind) (n : Int)
  | bool (b : Bool)
  | str (s : ByteArray)
  | nsl
  | isl (src : Tag) (e : Ty) (xs : List e.den)
  | fsl (o : Nat)
  | osl (o lo n : Nat)
  | ptr (o off : Nat)
  | ept (o i off : Nat)
  | vpt (src : Tag) (cells : List FV)
  | clo (f : Nat) (first caps : List FV)
  | nilp
  | agg (cells : List FV)
  | tup (vs : List FV)
  | nilb (n : Nat)
  deriving Inhabited

inductive Ob where
  | box (cells : List FV)
  | arr (e : Ty) (xs : List e.den) (live deep : Bool) (ver : Nat)

structure St where
  tmps : List FV
  objs : List (Option Ob)

def br {α : Type} (b : Bool) (x y : Option α) : Option α := match b with | true => x | false => y

def bd {α β : Type} (o : Option α) (f : α → Option β) : Option β := match o with
  | none => none
  | some a => f a

def gd {α : Type} : List Bool → Option α → Option α
  | [], x => x
  | b :: bs, x => br b (gd bs x) none

def llen {α : Type} (l : List α) : Nat := l.length
def lcat {α : Type} (a b : List α) : List α := a ++ b
def lsub {α : Type} (l : List α) (lo n : Nat) : List α := (l.drop lo).take n
def lget {α : Type} (l : List α) (i : Nat) (d : α) : α := l.getD i d
def lset {α : Type} (l : List α) (i : Nat) (v : α) : List α := l.set i v
def lmod {α : Type} (l : List α) (i : Nat) (f : α → α) : List α := l.modify i f
def lover {α : Type} (l : List α) (lo : Nat) (m : List α) : List α := l.take lo ++ m ++ l.drop (lo + m.length)
def lrep {α : Type} (n : Nat) (x : α) : List α := List.replicate n x

open Classical in
/-- What both come to. -/
noncomputable def both {α : Type} (x y : Option α) : Option α := if x = y then x else none

/-! ### Looking into objects, with a list of what was looked at -/
def Rd (α : Type) := (Nat → Option Ob) → Option (List Nat × α)
def Rd.pure {α : Type} (a : α) : Rd α := fun _ => some ([], a)
def Rd.bind {α β : Type} (m : Rd α) (f : α → Rd β) : Rd β := fun h =>
  match m h with
  | none => none
  | some (l, a) => match f a h with
    | none => none
    | some (l', b) => some (l ++ l', b)
def Rd.fail {α : Type} : Rd α := fun _ => none
def Rd.of {α : Type} : Option α → Rd α
  | none => Rd.fail
  | some a => Rd.pure a
def Rd.look (o : Nat) : Rd Ob := fun h => match h o with
  | none => none
  | some ob => some ([o], ob)
instance : Monad Rd where
  pure := Rd.pure
  bind := Rd.bind

/-- The cells of a datum. -/
def explode (src : Nat → Tag) : (t : Ty) → t.den → (c : Nat) → List FV
  | .int k, x, _ => [.int k x]
  | .bool, x, _ => [.bool x]
  | .str, x, _ => [.str x]
  | .sl e, x, c => [.isl (src c) e x]
  | .unit, _, _ => []
  | .pair a b, x, c => explode src a x.1 c ++ explode src b x.2 (c + a.cells)
  | .st t, x, c => explode src t x c
  | .ref, _, _ => [.bad]

def untagged : Nat → Tag := fun _ => none

/-- A struct's kind. -/
def Ty.isSt : Ty → Bool
  | .st _ => true
  | _ => false

def wrapSt (t : Ty) (cs : List FV) : FV :=
  match t with
  | .st _ => .agg cs
  | _ => match cs with
    | [c] => c
    | _ => .bad

/-- The cells of a value that is known. -/
def FV.cells? : FV → Option (List FV)
  | .agg cs => some cs
  | .bad => none
  | .tup _ => none
  | .nilb _ => none
  | v => some [v]

/-- A value of the form of a kind. -/
def shapeB (t : Ty) (v : FV) : Bool := match v with
  | .agg cs => t.isSt && Nat.beq cs.length t.cells
  | .bad => false
  | .tup _ => false
  | .nilb _ => false
  | _ => !t.isSt && Nat.beq t.cells 1

/-- The object is as it was when it was read. -/
def tagOk (o : Nat × Nat) : Rd Unit := (Rd.look o.1).bind fun
  | .arr _ _ _ _ v => if v = o.2 then Rd.pure () else Rd.fail
  | _ => Rd.fail

/-- What a slice holds. -/
def readSl (e : Ty) : FV → Rd (List e.den)
  | .nsl => Rd.pure []
  | .isl none e' xs => Rd.of (e'.sl.cast e.sl xs)
  | .isl (some (o, _)) e' xs => (tagOk o).bind fun _ => Rd.of (e'.sl.cast e.sl xs)
  | .fsl o => (Rd.look o).bind fun
    | .arr e' xs _ _ _ => Rd.of (e'.sl.cast e.sl xs)
    | _ => Rd.fail
  | .osl o lo n => (Rd.look o).bind fun
    | .arr e' xs _ _ _ => Rd.of (e'.sl.cast e.sl (lsub xs lo n))
    | _ => Rd.fail
  | _ => Rd.fail

/-- Data out of cells; what is left behind them. -/
def implode : (t : Ty) → List FV → Rd (t.den × List FV)
  | .int k, c :: cs => match c with
    | .int k' n => if k' = k then Rd.pure (n, cs) else Rd.fail
    | _ => Rd.fail
  | .bool, c :: cs => match c with
    | .bool b => Rd.pure (b, cs)
    | _ => Rd.fail
  | .str, c :: cs => match c with
    | .str s => Rd.pure (s, cs)
    | _ => Rd.fail
  | .sl e, c :: cs => (readSl e c).bind fun xs => Rd.pure (xs, cs)
  | .unit, cs => Rd.pure ((), cs)
  | .pair a b, cs => (implode a cs).bind fun x => (implode b x.2).bind fun y => Rd.pure ((x.1, y.1), y.2)
  | .st t, cs => implode t cs
  | _, _ => Rd.fail

def readVal (t : Ty) (v : FV) : Rd t.den := match v.cells? with
  | none => Rd.fail
  | some cs => (implode t cs).bind fun x => Rd.pure x.1

abbrev Puts := List (Nat × Option Ob)

/-- A slice that is owned whole, arrays within it too: what it holds, and the object. -/
def ownSl (e : Ty) : FV → Rd (List e.den × List Nat)
  | .nsl => Rd.pure ([], [])
  | .fsl o => (Rd.look o).bind fun
    | .arr e' xs true true _ => (Rd.of (e'.sl.cast e.sl xs)).bind fun ys => Rd.pure (ys, [o])
    | _ => Rd.fail
  | .osl o lo n => (Rd.look o).bind fun
    | .arr e' xs true true _ => (Rd.of (e'.sl.cast e.sl (lsub xs lo n))).bind fun ys => Rd.pure (ys, [o])
    | _ => Rd.fail
  | _ => Rd.fail

/-- Data out of cells of which every slice is owned. -/
def ownCells : (t : Ty) → List FV → Rd ((t.den × List Nat) × List FV)
  | .int k, c :: cs => match c with
    | .int k' n => if k' = k then Rd.pure ((n, []), cs) else Rd.fail
    | _ => Rd.fail
  | .bool, c :: cs => match c with
    | .bool b => Rd.pure ((b, []), cs)
    | _ => Rd.fail
  | .str, c :: cs => match c with
    | .str s => Rd.pure ((s, []), cs)
    | _ => Rd.fail
  | .sl e, c :: cs => (ownSl e c).bind fun xs => Rd.pure (xs, cs)
  | .unit, cs => Rd.pure (((), []), cs)
  | .pair a b, cs => (ownCells a cs).bind fun x => (ownCells b x.2).bind fun y => Rd.pure (((x.1.1, y.1.1), x.1.2 ++ y.1.2), y.2)
  | .st t, cs => ownCells t cs
  | _, _ => Rd.fail

def nodupB : List Nat → Bool
  | [] => true
  | a :: l => !l.contains a && nodupB l

/-- Whether every slice among cells is owned (asked of the objects). -/
def ownAll (h : Nat → Option Ob) : List FV → Bool
  | [] => true
  | c :: cs => (match c with
    | .isl .. => false
    | .osl o _ _ | .fsl o => match h o with
      | some (.arr _ _ true true _) => true
      | _ => false
    | _ => true) && ownAll h cs

/-- One cell's value that is known. -/
def FV.isCell : FV → Bool
  | .bad | .agg _ | .tup _ | .nilb _ => false
  | _ => true

/-- What is handed out for good: its object is not written any more. -/
def publish : List FV → Rd Puts
  | [] => Rd.pure []
  | c :: cs => (publish cs).bind fun l => match c with
    | .osl o _ _ | .fsl o => (Rd.look o).bind fun
      | .arr e xs _ d v => Rd.pure ((o, some (.arr e xs false d v)) :: l)
      | _ => Rd.fail
    | .isl (some (o, _)) _ _ => (Rd.look o.1).bind fun
      | .arr e xs lv _ v => Rd.pure ((o.1, some (.arr e xs lv (!e.deep) v)) :: l)
      | _ => Rd.fail
    | _ => Rd.pure l

/-- A datum that goes into an array: whether it brings its slices along as its own; what becomes of the objects. -/
def rowIn (t : Ty) (v : FV) : Rd (t.den × Bool × Puts) := match v.cells? with
  | none => Rd.fail
  | some cs => fun h => br (Nat.beq cs.length t.cells) (br (ownAll h cs)
      (((ownCells t cs).bind fun x => if nodupB x.1.2 then Rd.pure (x.1.1, true, x.1.2.map fun o => (o, none)) else Rd.fail) h)
      (((implode t cs).bind fun x => (publish cs).bind fun l => Rd.pure (x.1, false, l)) h)) none

/-- The datum with a part laid at a cell. -/
def putF : (t : Ty) → Nat → (u : Ty) → u.den → Option (t.den → t.den)
  | .pair a b, c, u, y =>
    if a = u ∧ c = 0 then match u.cast a y with
      | some y => some fun x => (y, x.2)
      | none => none
    else if c < a.cells then match putF a c u y with
      | some f => some fun x => (f x.1, x.2)
      | none => none
    else match putF b (c - a.cells) u y with
      | some f => some fun x => (x.1, f x.2)
      | none => none
  | .st t, c, u, y => if Ty.st t = u ∧ c = 0 then match u.cast (.st t) y with
      | some y => some fun _ => y
      | none => none
    else putF t c u y
  | t, c, u, y => if t = u ∧ c = 0 then match u.cast t y with
      | some y => some fun _ => y
      | none => none
    else none

/-- Cells with others laid over them from a place on. -/
def splice (cs : List FV) (off : Nat) (new : List FV) : List FV := cs.take off ++ new ++ cs.drop (off + new.length)

def zeroCells : Ty → List FV
  | .int k => [.int k 0]
  | .bool => [.bool false]
  | .str => [.str ByteArray.empty]
  | .sl _ => [.nsl]
  | .unit => []
  | .pair a b => zeroCells a ++ zeroCells b
  | .st t => zeroCells t
  | .ref => [.nilp]

/-! ### Arithmetic: names that stand -/
def iar (op : BinOp) (k : IntKind) (x y : Int) : Int :=
  match op with
  | .add => k.wrap (x + y)
  | .sub => k.wrap (x - y)
  | .mul => k.wrap (x * y)
  | .quo => k.wrap (x.tdiv y)
  | .rem => x.tmod y
  | .and => k.wrap (BitVec.ofInt k.bits x &&& BitVec.ofInt k.bits y).toNat
  | .or => k.wrap (BitVec.ofInt k.bits x ||| BitVec.ofInt k.bits y).toNat
  | .xor => k.wrap (BitVec.ofInt k.bits x ^^^ BitVec.ofInt k.bits y).toNat
  | .andNot => k.wrap (BitVec.ofInt k.bits x &&& ~~~ (BitVec.ofInt k.bits y)).toNat
  | .shl => k.wrap (x * 2 ^ (min y.toNat k.bits))
  | .shr => x.fdiv (2 ^ (min y.toNat k.bits))
  | _ => 0
def icm (op : BinOp) (x y : Int) : Bool :=
  match op with
  | .eql => x == y
  | .neq => x != y
  | .lss => x < y
  | .leq => x ≤ y
  | .gtr => x > y
  | .geq => x ≥ y
  | _ => false
def scm (op : BinOp) (x y : ByteArray) : Bool :=
  match op with
  | .eql => x.toList == y.toList
  | .neq => !(x.toList == y.toList)
  | .lss => Op.bytesLess x.toList y.toList
  | .leq => Op.bytesLess x.toList y.toList || x.toList == y.toList
  | .gtr => !(Op.bytesLess x.toList y.toList || x.toList == y.toList)
  | .geq => !Op.bytesLess x.toList y.toList
  | _ => false
def iwr (k : IntKind) (x : Int) : Int := k.wrap x
def bnot (b : Bool) : Bool := !b
def beqv (a b : Bool) : Bool := a == b
def bytesStr (xs : List Int) : ByteArray := ⟨(xs.map fun x => UInt8.ofNat x.toNat).toArray⟩
def strBytes (s : ByteArray) : List Int := s.data.toList.map fun b => (b.toNat : Int)
def sadd (a b : ByteArray) : ByteArray := a ++ b
def ssize (a : ByteArray) : Int := a.size
def sget (s : ByteArray) (i : Int) : Int := match s[i.toNat]? with
  | some b => b.toNat
  | none => 0
def scut (s : ByteArray) (l h : Int) : ByteArray := s.extract l.toNat h.toNat
def lnat (n : Nat) : Int := n
def nadd (a b : Nat) : Nat := a + b
def itn (a : Int) : Nat := a.toNat
def inb (i n : Int) : Bool := decide (0 ≤ i) && decide (i < n)
def ile (i n : Int) : Bool := decide (i ≤ n)
def neq0 (y : Int) : Bool := !(y == 0)
def nge0 (y : Int) : Bool := decide (0 ≤ y)
def fits (n : Nat) : Bool := decide (n ≤ 4294967296)
def nsame (a b : Nat) : Bool := a == b
def band (a b : Bool) : Bool := a && b
def nmin (a b : Nat) : Nat := min a b
def isub (a b : Int) : Int := a - b
def iadd (a b : Int) : Int := a + b

noncomputable def nilbr {α : Type} (n : Nat) (x y : Option α) : Option α := br (nsame n 0) (both x y) y

def Ty.eqd : (t : Ty) → t.den → t.den → Option Bool
  | .int _, x, y => some (icm .eql x y)
  | .bool, x, y => some (beqv x y)
  | .str, x, y => some (scm .eql x y)
  | .unit, _, _ => some true
  | .pair a b, x, y => match a.eqd x.1 y.1, b.eqd x.2 y.2 with
    | some p, some q => some (band p q)
    | _, _ => none
  | .st t, x, y => t.eqd x y
  | _, _, _ => none

end Go.Evr

namespace Go.Evr

/-- How a parameter (or what a function value holds) is handed over. 'clo f a b': a function value of function f; what it holds (a at first, b captured) follows in the list. 'agg n': a struct whose n cells follow in the list. -/
inductive Md where
  | view (t : Ty)
  | ro (t : Ty)
  | io (t : Ty)
  | mut (e : Ty)
  | take (e : Ty)
  | clo (f a b : Nat)
  | agg (n : Nat)

def argT : List Md → Ty
  | [] => .unit
  | .view t :: ms => .pair t (argT ms)
  | .ro t :: ms => .pair t (argT ms)
  | .io t :: ms => .pair t (argT ms)
  | .mut e :: ms => .pair (.sl e) (argT ms)
  | .take e :: ms => .pair (.sl e) (argT ms)
  | .clo _ _ _ :: ms => argT ms
  | .agg _ :: ms => argT ms

def outT : List Md → Ty
  | [] => .unit
  | .io t :: ms => .pair t (outT ms)
  | .mut e :: ms => .pair (.sl e) (outT ms)
  | _ :: ms => outT ms

def resT : List Ty → List Md → Ty
  | [], ms => outT ms
  | t :: ts, ms => .pair t (resT ts ms)

structure Entry where
  id : Nat
  fid : Nat
  ps : List Md
  rs : List Ty
  hook : Option ((argT ps).den → Option (resT rs ps).den)

def Entry.R (en : Entry) : Type := (resT en.rs en.ps).den

structure Ctx where
  tt : List (Option Ty)
  es : List Entry
  live : List (Nat × List (Nat × List Nat))

def Ctx.ty (C : Ctx) (t : Nat) : Option Ty := match C.tt[t]? with
  | some (some u) => some u
  | _ => none

/-! ### Data laid as an owner's -/
def ownN : Ty → Nat
  | .sl _ => 1
  | .pair a b => ownN a + ownN b
  | .st t => ownN t
  | _ => 0

def ownOut (nx : Nat) : (t : Ty) → t.den → List FV
  | .int k, x => [.int k x]
  | .bool, x => [.bool x]
  | .str, x => [.str x]
  | .sl _, _ => [.fsl nx]
  | .unit, _ => []
  | .pair a b, x => ownOut nx a x.1 ++ ownOut (nx + ownN a) b x.2
  | .st t, x => ownOut nx t x
  | .ref, _ => [.bad]

def ownObs : (t : Ty) → t.den → List Ob
  | .sl e, x => [.arr e x true true 0]
  | .pair a b, x => ownObs a x.1 ++ ownObs b x.2
  | .st t, x => ownObs t x
  | _, _ => []

/-! ### Entering a function: what is given back first, then what lies in it -/
def pins : List Md → Nat
  | [] => 0
  | .io _ :: ms => pins ms + 1
  | .mut _ :: ms => pins ms + 1
  | _ :: ms => pins ms

/-- The parameters; p: the next of the pinned objects, nx: the next of the others. -/
def enterV : (ms : List Md) → (argT ms).den → Nat → Nat → List FV
  | [], _, _, _ => []
  | .view t :: ms, x, p, nx => wrapSt t (explode untagged t x.1 0) :: enterV ms x.2 p nx
  | .ro t :: ms, x, p, nx => .vpt none (explode untagged t x.1 0) :: enterV ms x.2 p nx
  | .io t :: ms, x, p, nx => .ptr p 0 :: enterV ms x.2 (p + 1) (nx + ownN t)
  | .mut _ :: ms, x, p, nx => .fsl p :: enterV ms x.2 (p + 1) nx
  | .take _ :: ms, x, p, nx => .fsl nx :: enterV ms x.2 p (nx + 1)
  | .clo f a b :: ms, x, p, nx =>
    let l := enterV ms x p nx
    .clo f (l.take a) ((l.drop a).take b) :: l.drop (a + b)
  | .agg n :: ms, x, p, nx => .agg ((enterV ms x p nx).take n) :: (enterV ms x p nx).drop n

/-- The pinned objects. -/
def enterP : (ms : List Md) → (argT ms).den → Nat → List Ob
  | [], _, _ => []
  | .view _ :: ms, x, nx => enterP ms x.2 nx
  | .ro _ :: ms, x, nx => enterP ms x.2 nx
  | .io t :: ms, x, nx => .box (ownOut nx t x.1) :: enterP ms x.2 (nx + ownN t)
  | .mut e :: ms, x, nx => .arr e x.1 true true 0 :: enterP ms x.2 nx
  | .take _ :: ms, x, nx => enterP ms x.2 (nx + 1)
  | .clo _ _ _ :: ms, x, nx => enterP ms x nx
  | .agg _ :: ms, x, nx => enterP ms x nx

/-- The others. -/
def enterO : (ms : List Md) → (argT ms).den → List Ob
  | [], _ => []
  | .view _ :: ms, x => enterO ms x.2
  | .ro _ :: ms, x => enterO ms x.2
  | .io t :: ms, x => ownObs t x.1 ++ enterO ms x.2
  | .mut _ :: ms, x => enterO ms x.2
  | .take e :: ms, x => .arr e x.1 true true 0 :: enterO ms x.2
  | .clo _ _ _ :: ms, x => enterO ms x
  | .agg _ :: ms, x => enterO ms x

/-- What a function is entered with: its parameters', then what it has captured. -/
def entered (en : Entry) (x : (argT en.ps).den) (ntmps : Nat) : St :=
  let vs := enterV en.ps x 0 (pins en.ps)
  { tmps := vs ++ List.replicate (ntmps - vs.length) .bad, objs := (enterP en.ps x (pins en.ps) ++ enterO en.ps x).map some }

/-! ### Leaving it -/
/-- What is given back of the parameters. -/
def outs : (ms : List Md) → Nat → Rd ((outT ms).den × List Nat)
  | [], _ => Rd.pure ((), [])
  | .io t :: ms, p => (Rd.look p).bind fun
    | .box cs => (ownCells t cs).bind fun x => (outs ms (p + 1)).bind fun y => Rd.pure ((x.1.1, y.1), p :: (x.1.2 ++ y.2))
    | _ => Rd.fail
  | .mut e :: ms, p => (Rd.look p).bind fun
    | .arr e' xs true true _ => (Rd.of (e'.sl.cast e.sl xs)).bind fun z => (outs ms (p + 1)).bind fun y => Rd.pure ((z, y.1), p :: y.2)
    | _ => Rd.fail
  | .take _ :: ms, p => outs ms p
  | .view _ :: ms, p => outs ms p
  | .ro _ :: ms, p => outs ms p
  | .clo _ _ _ :: ms, p => outs ms p
  | .agg _ :: ms, p => outs ms p

def St.ob (S : St) (o : Nat) : Option Ob := match S.objs[o]? with
  | some x => x
  | none => none
def St.tmp (S : St) (t : Nat) : FV := S.tmps.getD t .bad

def cellsAt (n : Nat) : FV → Rd (List FV)
  | .ptr o off => (Rd.look o).bind fun
    | .box cs => Rd.pure ((cs.drop off).take n)
    | _ => Rd.fail
  | .ept o i off => (Rd.look o).bind fun
    | .arr e xs _ d v => Rd.pure (((explode (fun c => if d && e.deep then some ((o, v), some (i, c)) else none) e (lget xs i e.zero) 0).drop off).take n)
    | _ => Rd.fail
  | .vpt none cs => Rd.pure (cs.take n)
  | .vpt (some (o, _)) cs => (tagOk o).bind fun _ => Rd.pure (cs.take n)
  | _ => Rd.fail

def resOne (C : Ctx) (ty : Ty) (S : St) : ResultVar → Rd (List FV)
  | .tmp t => if shapeB ty (S.tmp t) then Rd.of (S.tmp t).cells? else Rd.fail
  | .cell a t => if C.ty t = some ty then (cellsAt ty.cells (S.tmp a)).bind fun cs => if Nat.beq cs.length ty.cells && (ty.isSt || Nat.beq ty.cells 1) then Rd.pure cs else Rd.fail else Rd.fail

def results (C : Ctx) : (ts : List Ty) → (ms : List Md) → St → List ResultVar → Rd ((resT ts ms).den × List Nat)
  | [], ms, _, [] => outs ms 0
  | [], _, _, _ :: _ => Rd.fail
  | t :: ts, ms, S, r :: rs => (resOne C t S r).bind fun cs => (ownCells t cs).bind fun x => (results C ts ms S rs).bind fun y => Rd.pure ((x.1.1, y.1), x.1.2 ++ y.2)
  | _ :: _, _, _, [] => Rd.fail

def finish (C : Ctx) (en : Entry) (rv : Array ResultVar) (S : St) : Option en.R :=
  match results C en.rs en.ps S rv.toList S.ob with
  | some (_, y) => if nodupB y.2 then some y.1 else none
  | none => none

/-! ### Handing over to a callee -/
inductive Back where
  | io (o : Nat) (t : Ty)
  | all (o : Nat) (e : Ty) (old : List e.den) (v : Nat)
  | inn (o i c : Nat) (e u : Ty) (old : List u.den) (ys : List e.den) (v : Nat)

structure Coll (ms : List Md) where
  x : (argT ms).den
  owned : List Nat
  deps : List Nat
  back : List Back

def Rd.tap {α : Type} (m : Rd α) : Rd (List Nat × α) := fun h => match m h with
  | none => none
  | some (l, a) => some (l, (l, a))

def collect : (ms : List Md) → List FV → Rd (Coll ms)
  | [], [] => Rd.pure ⟨(), [], [], []⟩
  | [], _ :: _ => Rd.fail
  | .view t :: ms, v :: vs => (if shapeB t v then readVal t v else Rd.fail).tap.bind fun x => (collect ms vs).bind fun c => Rd.pure ⟨(x.2, c.x), c.owned, x.1 ++ c.deps, c.back⟩
  | .ro t :: ms, v :: vs => ((cellsAt t.cells v).bind fun cs => if Nat.beq cs.length t.cells then implode t cs else Rd.fail).tap.bind fun x => (collect ms vs).bind fun c => Rd.pure ⟨(x.2.1, c.x), c.owned, x.1 ++ c.deps, c.back⟩
  | .io t :: ms, v :: vs => match v with
    | .ptr o off => (Rd.look o).bind fun
      | .box cs => if Nat.beq off 0 && Nat.beq cs.length t.cells then (ownCells t cs).bind fun x => (collect ms vs).bind fun c => Rd.pure ⟨(x.1.1, c.x), o :: x.1.2 ++ c.owned, c.deps, .io o t :: c.back⟩ else Rd.fail
      | _ => Rd.fail
    | _ => Rd.fail
  | .mut e :: ms, v :: vs => match v with
    | .fsl o => (Rd.look o).bind fun
      | .arr e' xs true true v => (Rd.of (e'.sl.cast e.sl xs)).bind fun ys => (collect ms vs).bind fun c => Rd.pure ⟨(ys, c.x), o :: c.owned, c.deps, .all o e ys v :: c.back⟩
      | _ => Rd.fail
    | .isl (some (o, some (i, k))) e' zs => (Rd.look o.1).bind fun
      | .arr u us true true v => if v = o.2 then (Rd.of (e'.sl.cast e.sl zs)).bind fun ys => (collect ms vs).bind fun c => Rd.pure ⟨(ys, c.x), o.1 :: c.owned, c.deps, .inn o.1 i k e u us ys v :: c.back⟩ else Rd.fail
      | _ => Rd.fail
    | _ => Rd.fail
  | .take e :: ms, v :: vs => (ownSl e v).bind fun x => (collect ms vs).bind fun c => Rd.pure ⟨(x.1, c.x), x.2 ++ c.owned, c.deps, c.back⟩
  | .clo f a b :: ms, v :: vs => match v with
    | .clo f' fs cs => if f' = f ∧ fs.length = a ∧ cs.length = b then (collect ms (fs ++ cs ++ vs)).bind fun c => Rd.pure ⟨c.x, c.owned, c.deps, c.back⟩ else Rd.fail
    | _ => Rd.fail
  | .agg n :: ms, v :: vs => match v with
    | .agg cs => if cs.length = n then (collect ms (cs ++ vs)).bind fun c => Rd.pure ⟨c.x, c.owned, c.deps, c.back⟩ else Rd.fail
    | _ => Rd.fail
  | _ :: _, [] => Rd.fail

/-- Whether the function values are those of an entry. -/
def cloFit : List Md → List FV → Bool
  | [], _ => true
  | .clo f a b :: ms, .clo f' fs cs :: vs => f' == f && fs.length == a && cs.length == b && cloFit ms (fs ++ cs ++ vs)
  | .clo _ _ _ :: _, _ => false
  | .agg n :: ms, .agg cs :: vs => cs.length == n && cloFit ms (cs ++ vs)
  | .agg _ :: _, _ => false
  | _ :: ms, _ :: vs => cloFit ms vs
  | _ :: _, [] => false

def findE (f : Nat) (vs : List FV) : List Entry → Option Entry
  | [] => none
  | en :: l => if en.fid = f ∧ cloFit en.ps vs = true then some en else findE f vs l

/-- What became of an operation. -/
structure Eff where
  val : FV
  puts : Puts
  nx : Nat
  guards : List Bool

def backPuts (nx : Nat) : (ms : List Md) → (outT ms).den → List Back → Option (Puts × Nat × List Bool)
  | [], _, _ => some ([], nx, [])
  | .io t :: ms, y, .io o _ :: bs =>
    match backPuts (nx + ownN t) ms y.2 bs with
    | some (p, n, g) => some ((o, some (.box (ownOut nx t y.1))) :: ((ownObs t y.1).zipIdx nx).map (fun q => (q.2, some q.1)) ++ p, n, g)
    | none => none
  | .mut e :: ms, y, .all o _ old v :: bs =>
    match backPuts nx ms y.2 bs with
    | some (p, m, g) => some ((o, some (.arr e y.1 true true (v + 1))) :: p, m, nsame (llen y.1) (llen old) :: g)
    | none => none
  | .mut e :: ms, y, .inn o i c _ u old ys v :: bs =>
    match putF u c (.sl e) y.1, backPuts nx ms y.2 bs with
    | some f, some (p, m, g) => some ((o, some (.arr u (lmod old i f) true true (v + 1))) :: p, m, nsame (llen y.1) (llen ys) :: g)
    | _, _ => none
  | .take _ :: ms, y, bs => backPuts nx ms y bs
  | .view _ :: ms, y, bs => backPuts nx ms y bs
  | .ro _ :: ms, y, bs => backPuts nx ms y bs
  | .clo _ _ _ :: ms, y, bs => backPuts nx ms y bs
  | .agg _ :: ms, y, bs => backPuts nx ms y bs
  | _, _, _ => none

def resVals (nx : Nat) : (ts : List Ty) → (ms : List Md) → (resT ts ms).den → List FV × Puts × Nat × (outT ms).den
  | [], _, y => ([], [], nx, y)
  | t :: ts, ms, y =>
    let r := resVals (nx + ownN t) ts ms y.2
    (wrapSt t (ownOut nx t y.1) :: r.1, ((ownObs t y.1).zipIdx nx).map (fun q => (q.2, some q.1)) ++ r.2.1, r.2.2.1, r.2.2.2)

/-- A call that is to be made. -/
structure Req where
  en : Entry
  x : (argT en.ps).den
  fin : en.R → Option Eff

def tupF : List FV → FV
  | [v] => v
  | l => .tup l

def disj (a b : List Nat) : Bool := a.all fun x => !b.contains x

def asked (C : Ctx) (nx f : Nat) (vs : List FV) : Rd Req :=
  match findE f vs C.es with
  | none => Rd.fail
  | some en => (collect en.ps vs).bind fun c =>
    if nodupB c.owned && disj c.owned c.deps then Rd.pure
      { en, x := c.x, fin := fun y =>
          let r := resVals nx en.rs en.ps y
          match backPuts r.2.2.1 en.ps r.2.2.2 c.back with
          | none => none
          | some (p, n, g) => some ⟨tupF r.1, c.owned.map (fun o => (o, none)) ++ r.2.1 ++ p, n, g⟩ }
    else Rd.fail
end Go.Evr

namespace Go.Evr

def constCell : Value → FV
  | .bool b => .bool b
  | .int k n => .int k n
  | .string s => .str s
  | .slice _ 0 0 => .nsl
  | .pointer none => .nilp
  | .nilFunc => .nilp
  | _ => .bad

def constFV : Value → FV
  | .func (.func f) ⟨[]⟩ ⟨[]⟩ => .clo f [] []
  | .agg cs => .agg (cs.toList.map constCell)
  | v => constCell v

def St.ev (S : St) : Operand → FV
  | .tmp t => S.tmp t
  | .const v => constFV v
  | .func f => .clo f [] []
  | .global _ => .bad

def val (v : FV) (nx : Nat) : Rd Eff := Rd.pure ⟨v, [], nx, []⟩
def valG (g : List Bool) (v : FV) (nx : Nat) : Rd Eff := Rd.pure ⟨v, [], nx, g⟩

def binK (nx : Nat) (op : BinOp) (k : IntKind) (x y : Int) : Rd Eff :=
  match op with
  | .add | .sub | .mul | .and | .or | .xor | .andNot => val (.int k (iar op k x y)) nx
  | .quo | .rem => valG [neq0 y] (.int k (iar op k x y)) nx
  | .shl | .shr => valG [nge0 y] (.int k (iar op k x y)) nx
  | _ => val (.bool (icm op x y)) nx

def evBin (C : Ctx) (nx : Nat) (op : BinOp) (t : Nat) (x y : FV) : Rd Eff :=
  match x, y with
  | .int k a, .int k' b => match op with
    | .shl | .shr => binK nx op k a b
    | _ => if k = k' then binK nx op k a b else Rd.fail
  | .str a, .str b => match op with
    | .add => valG [ile (iadd (ssize a) (ssize b)) 9223372036854775807] (.str (sadd a b)) nx
    | .eql | .neq | .lss | .leq | .gtr | .geq => val (.bool (scm op a b)) nx
    | _ => Rd.fail
  | .bool a, .bool b => if C.ty t = some .bool then (match op with
    | .eql => val (.bool (beqv a b)) nx
    | .neq => val (.bool (bnot (beqv a b))) nx
    | _ => Rd.fail) else Rd.fail
  | _, _ => Rd.fail

/-- The length of a slice. -/
def slLen : FV → Rd Nat
  | .nsl => Rd.pure 0
  | .isl none _ xs => Rd.pure (llen xs)
  | .isl (some (o, _)) _ xs => (tagOk o).bind fun _ => Rd.pure (llen xs)
  | .fsl o => (Rd.look o).bind fun
    | .arr _ xs _ _ _ => Rd.pure (llen xs)
    | _ => Rd.fail
  | .osl o _ n => (Rd.look o).bind fun
    | .arr _ _ _ _ _ => Rd.pure n
    | _ => Rd.fail
  | _ => Rd.fail
def isSl0 : Option Ty → Bool
  | some (.sl _) => true
  | _ => false
def isNilC : Operand → Bool
  | .const (.slice none 0 0) => true
  | _ => false
/-- A slice compared with nil: it is not known unless it is empty. -/
def evNil (C : Ctx) (nx : Nat) (op : BinOp) (t : Nat) (x : FV) : Rd Eff := if isSl0 (C.ty t) = true then (match op with
  | .eql => (slLen x).bind fun n => val (.nilb n) nx
  | _ => Rd.fail) else Rd.fail

def evUn (nx : Nat) (op : UnOp) (x : FV) : Rd Eff :=
  match op, x with
  | .not, .bool b => val (.bool (bnot b)) nx
  | .neg, .int k n => val (.int k (iar .sub k 0 n)) nx
  | .xor, .int k n => val (.int k (iar .xor k (if k.signed then -1 else k.max) n)) nx
  | _, _ => Rd.fail

def tyInt : Option Ty → Option IntKind
  | some (.int k) => some k
  | _ => none

/-- Not yet. -/
def newBytes (_ : Nat) (_ : ByteArray) : Rd Eff := Rd.fail

def evConv (C : Ctx) (nx : Nat) (src dst : Nat) (x : FV) : Rd Eff :=
  match x with
  | .int _ n => if (tyInt (C.ty src)).isSome = true then (match tyInt (C.ty dst) with
    | some k => val (.int k (iwr k n)) nx
    | none => Rd.fail) else Rd.fail
  | .str s => if C.ty src = some .str then (if C.ty dst = some .str then val (.str s) nx else if C.ty dst = some (.sl (.int .u8)) then newBytes nx s else Rd.fail) else Rd.fail
  | x => if C.ty src = some (.sl (.int .u8)) ∧ C.ty dst = some .str then (readSl (.int .u8) x).bind fun xs => val (.str (bytesStr xs)) nx else Rd.fail

def ptrAdd (v : FV) (n : Nat) : Option FV := match v with
  | .ptr o off => some (.ptr o (off + n))
  | .ept o i off => some (.ept o i (off + n))
  | .vpt tg cs => some (.vpt tg (cs.drop n))
  | _ => none

/-- Parts laid into the zero cells of a struct. -/
def layParts (t : Ty) : List (Nat × FV) → List FV → Option (List FV)
  | [], cs => some cs
  | (i, v) :: ps, cs => match t.fieldOf i, v.cells? with
    | some (off, u), some ws => if ws.length = u.cells then layParts t ps (splice cs off ws) else none
    | _, _ => none

def rowsIn (e : Ty) : Nat → List (Nat × FV) → Rd (List e.den × Bool × Puts)
  | 0, _ => Rd.pure ([], true, [])
  | n + 1, ps => (rowsIn e n ps).bind fun r => match ps.find? (·.1 == n) with
    | some (_, v) => (rowIn e v).bind fun x => Rd.pure (r.1 ++ [x.1], r.2.1 && x.2.1, r.2.2 ++ x.2.2)
    | none => Rd.pure (r.1 ++ [e.zero], r.2.1, r.2.2)

def partsOk (n : Nat) (l : List Nat) : Bool := nodupB l && l.all fun i => Nat.blt i n
def putsOk (p : Puts) : Bool := nodupB (p.map (·.1))


def cellsN (v : FV) (n : Nat) : Bool := match v.cells? with
  | some ws => Nat.beq ws.length n
  | none => false

def evStore (C : Ctx) (nx t : Nat) (a v : FV) : Rd Eff :=
  match a with
  | .ptr o off => (Rd.look o).bind fun
    | .box cs => match C.ty t, v.cells? with
      | some u, some ws => if ws.length = u.cells ∧ off + u.cells ≤ cs.length ∧ ws.all FV.isCell = true then Rd.pure ⟨.bad, [(o, some (.box (splice cs off ws)))], nx, []⟩ else Rd.fail
      | _, _ => Rd.fail
    | _ => Rd.fail
  | .ept o i off => (Rd.look o).bind fun
    | .arr e xs true d ver => match C.ty t with
      | some u => if u.deep then
          (rowIn u v).bind fun r => match putF e off u r.1 with
            | some f => if putsOk ((o, none) :: r.2.2) then Rd.pure ⟨.bad, (o, some (.arr e (lmod xs i f) true (d && r.2.1) (ver + 1))) :: r.2.2, nx, []⟩ else Rd.fail
            | none => Rd.fail
        else if cellsN v u.cells = true then (readVal u v).bind fun x => match putF e off u x with
          | some f => Rd.pure ⟨.bad, [(o, some (.arr e (lmod xs i f) true d ver))], nx, []⟩
          | none => Rd.fail
        else Rd.fail
      | none => Rd.fail
    | _ => Rd.fail
  | _ => Rd.fail

def intOfFV : FV → Option Int
  | .int _ n => some n
  | _ => none

def isSl : Option Ty → Bool
  | some (.sl _) => true
  | _ => false

/-- The bounds of a part: low, high. -/
def bnds (lo hi : Option FV) (n : Int) : Option (Int × Int) :=
  match (match lo with | none => some 0 | some v => intOfFV v), (match hi with | none => some n | some v => intOfFV v) with
  | some l, some h => some (l, h)
  | _, _ => none

def cutTag (t : Tag) : Tag := t.map fun q => (q.1, none)

def isZero : Option FV → Bool
  | some (.int _ 0) => true
  | _ => false

def tagChk : Tag → Rd Unit
  | none => Rd.pure ()
  | some (o, _) => tagOk o

def evSlice (C : Ctx) (nx t : Nat) (x : FV) (lo hi mx : Option FV) : Rd Eff :=
  match mx with
  | some m => if isZero (some m) && isZero hi && lo.isNone && isSl (C.ty t) then (match x with
      | .nsl | .osl .. | .fsl _ | .isl .. => val .nsl nx
      | _ => Rd.fail) else Rd.fail
  | none =>
    match x with
    | .str s => if C.ty t = some .str then (match bnds lo hi (ssize s) with
      | some (l, h) => valG [ile 0 l, ile l h, ile h (ssize s)] (.str (scut s l h)) nx
      | none => Rd.fail) else Rd.fail
    | .nsl => if isSl (C.ty t) = true then (match bnds lo hi 0 with
      | some (l, h) => valG [icm .eql l 0, icm .eql h 0] .nsl nx
      | none => Rd.fail) else Rd.fail
    | .isl tg e xs => (tagChk tg).bind fun _ => if C.ty t = some (.sl e) then (match bnds lo hi (lnat (llen xs)) with
      | some (l, h) => valG [ile 0 l, ile l h, ile h (lnat (llen xs))] (.isl (cutTag tg) e (lsub xs (itn l) (itn (isub h l)))) nx
      | none => Rd.fail) else Rd.fail
    | .fsl o => (Rd.look o).bind fun
      | .arr e xs _ _ _ => if C.ty t = some (.sl e) then (match bnds lo hi (lnat (llen xs)) with
        | some (l, h) => valG [ile 0 l, ile l h, ile h (lnat (llen xs))] (.osl o (itn l) (itn (isub h l))) nx
        | none => Rd.fail) else Rd.fail
      | _ => Rd.fail
    | .osl o lo0 n => (Rd.look o).bind fun
      | .arr e _ _ _ _ => if C.ty t = some (.sl e) then (match bnds lo hi (lnat n) with
        | some (l, h) => valG [ile 0 l, ile l h, ile h (lnat n)] (.osl o (nadd lo0 (itn l)) (itn (isub h l))) nx
        | none => Rd.fail) else Rd.fail
      | _ => Rd.fail
    | _ => Rd.fail

def evIndexAddr (C : Ctx) (nx t : Nat) (x i : FV) : Rd Eff :=
  match i with
  | .int _ i => match x with
    | .fsl o => (Rd.look o).bind fun
      | .arr e xs _ _ _ => if C.ty t = some (.sl e) then valG [inb i (lnat (llen xs))] (.ept o (itn i) 0) nx else Rd.fail
      | _ => Rd.fail
    | .osl o lo n => (Rd.look o).bind fun
      | .arr e _ _ _ _ => if C.ty t = some (.sl e) then valG [inb i (lnat n)] (.ept o (nadd lo (itn i)) 0) nx else Rd.fail
      | _ => Rd.fail
    | .isl tg e xs => (tagChk tg).bind fun _ => if C.ty t = some (.sl e) then valG [inb i (lnat (llen xs))] (.vpt (cutTag tg) (explode (fun _ => cutTag tg) e (lget xs (itn i) e.zero) 0)) nx else Rd.fail
    | _ => Rd.fail
  | _ => Rd.fail

/-- What is appended: content, whether with its own arrays, what becomes of the objects. -/
def appended (e : Ty) (x : FV) : Rd (List e.den × Bool × Puts) :=
  match x with
  | .str s => (Rd.of ((Ty.sl (.int .u8)).cast (.sl e) (strBytes s))).bind fun ys => Rd.pure (ys, true, [])
  | .nsl => Rd.pure ([], true, [])
  | .agg _ => Rd.fail
  | x => fun h => br e.deep (rowIn (.sl e) x h) (((readSl e x).bind fun ys => Rd.pure (ys, true, [])) h)

def evAppend (C : Ctx) (nx t : Nat) (s x : FV) : Rd Eff :=
  match C.ty t with
  | some (.sl e) =>
    match s with
    | .nsl => (appended e x).bind fun r => if putsOk r.2.2 then Rd.pure ⟨.fsl nx, (nx, some (.arr e r.1 true r.2.1 0)) :: r.2.2, nx + 1, [fits (llen r.1)]⟩ else Rd.fail
    | .fsl o => (Rd.look o).bind fun
      | .arr e' xs true d _ => (Rd.of (e'.sl.cast e.sl xs)).bind fun xs => (appended e x).bind fun r =>
        if putsOk ((o, none) :: r.2.2) then
          Rd.pure ⟨.fsl nx, (nx, some (.arr e (lcat xs r.1) true (d && r.2.1) 0)) :: (o, none) :: r.2.2, nx + 1, [fits (nadd (llen xs) (llen r.1))]⟩
        else Rd.fail
      | _ => Rd.fail
    | .osl o lo n => (Rd.look o).bind fun
      | .arr e' xs true d _ => (Rd.of (e'.sl.cast e.sl xs)).bind fun xs => (appended e x).bind fun r =>
        if putsOk ((o, none) :: r.2.2) then
          Rd.pure ⟨.fsl nx, (nx, some (.arr e (lcat (lsub xs lo n) r.1) true (d && r.2.1) 0)) :: (o, none) :: r.2.2, nx + 1, [nsame (nadd lo n) (llen xs), fits (nadd n (llen r.1))]⟩
        else Rd.fail
      | _ => Rd.fail
    | _ => Rd.fail
  | _ => Rd.fail

/-- Not yet. -/
def evCopy (_ : Nat) (_ _ : FV) : Rd Eff := Rd.fail

def evLen (C : Ctx) (nx t : Nat) (x : FV) : Rd Eff :=
  match x with
  | .str s => if C.ty t = some .str then val (.int .i64 (ssize s)) nx else Rd.fail
  | .nsl => if isSl (C.ty t) = true then val (.int .i64 0) nx else Rd.fail
  | .isl _ _ xs => if isSl (C.ty t) = true then val (.int .i64 (lnat (llen xs))) nx else Rd.fail
  | .fsl o => if isSl (C.ty t) = true then (Rd.look o).bind fun
    | .arr _ xs _ _ _ => val (.int .i64 (lnat (llen xs))) nx
    | _ => Rd.fail
    else Rd.fail
  | .osl _ _ n => if isSl (C.ty t) = true then val (.int .i64 (lnat n)) nx else Rd.fail
  | _ => Rd.fail

def imax (a b : Int) : Int := if b > a then b else a
def imin (a b : Int) : Int := if b < a then b else a
def foldInt (f : Int → Int → Int) (k : IntKind) : Int → List FV → Option Int
  | a, [] => some a
  | a, .int k' n :: l => if k = k' then foldInt f k (f a n) l else none
  | _, _ => none

def evBuiltin (C : Ctx) (nx : Nat) (b : Builtin) (ts : List Nat) (vs : List FV) : Rd Eff :=
  match b, vs with
  | .len, [x] => match ts with
    | t :: _ => evLen C nx t x
    | _ => Rd.fail
  | .append, [s, x] => match ts with
    | t :: t2 :: _ => if isSl (C.ty t2) || (C.ty t2 == some .str) then evAppend C nx t s x else Rd.fail
    | _ => Rd.fail
  | .copy, [d, s] => evCopy nx d s
  | .max, .int k a :: l => match foldInt imax k a l with
    | some n => val (.int k n) nx
    | none => Rd.fail
  | .min, .int k a :: l => match foldInt imin k a l with
    | some n => val (.int k n) nx
    | none => Rd.fail
  | _, _ => Rd.fail


/-- One operation that calls no Go function. -/
def evOp (C : Ctx) (nx : Nat) (ev : Operand → FV) (op : Op) : Rd Eff :=
  match op with
  | .move x | .assign x => val (ev x) nx
  | .alloc t => match C.ty t with
    | some u => Rd.pure ⟨.ptr nx 0, [(nx, some (.box (zeroCells u)))], nx + 1, []⟩
    | none => Rd.fail
  | .box t x => match C.ty t, (ev x).cells? with
    | some u, some cs => if cs.length = u.cells then Rd.pure ⟨.ptr nx 0, [(nx, some (.box cs))], nx + 1, []⟩ else Rd.fail
    | _, _ => Rd.fail
  | .build t parts => match C.ty t with
    | some (.st u) => match layParts u (parts.toList.map fun p => (p.1, ev p.2)) (zeroCells u) with
      | some cs => if cs.length = u.cells then val (.agg cs) nx else Rd.fail
      | none => Rd.fail
    | _ => Rd.fail
  | .buildSlice t n parts => match C.ty t with
    | some (.sl e) => if partsOk n (parts.toList.map (·.1)) && Nat.ble (n * e.cells) 16777216 then
        (rowsIn e n (parts.toList.map fun p => (p.1, ev p.2))).bind fun r =>
          if putsOk r.2.2 then Rd.pure ⟨.fsl nx, (nx, some (.arr e r.1 true r.2.1 0)) :: r.2.2, nx + 1, []⟩ else Rd.fail
      else Rd.fail
    | _ => Rd.fail
  | .load t a => match C.ty t with
    | some u => (cellsAt u.cells (ev a)).bind fun cs => if cs.length = u.cells then val (wrapSt u cs) nx else Rd.fail
    | none => Rd.fail
  | .store t a x => evStore C nx t (ev a) (ev x)
  | .nilCheck x => match ev x with
    | .ptr o off => val (.ptr o off) nx
    | .ept o i off => val (.ept o i off) nx
    | .vpt tg cs => val (.vpt tg cs) nx
    | .clo f a b => val (.clo f a b) nx
    | _ => Rd.fail
  | .binOp op t x y _ => if isNilC y = true then evNil C nx op t (ev x) else evBin C nx op t (ev x) (ev y)
  | .unOp op _ x => evUn nx op (ev x)
  | .convert s d x => evConv C nx s d (ev x)
  | .makeFunc (.func f) first caps => val (.clo f (first.toList.map ev) (caps.toList.map ev)) nx
  | .makeSlice t l c => match C.ty t, ev l, ev c with
    | some (.sl e), .int _ n, .int _ m => Rd.pure ⟨.fsl nx, [(nx, some (.arr e (lrep (itn n) e.zero) true true 0))], nx + 1, [ile 0 n, ile n m, fits (itn m)]⟩
    | _, _, _ => Rd.fail
  | .slice t x lo hi mx => evSlice C nx t (ev x) (lo.map ev) (hi.map ev) (mx.map ev)
  | .fieldAddr s x f => match C.ty s with
    | some (.st u) => match u.fieldOf f with
      | some (off, t) => if t.cells = 0 then Rd.fail else match ptrAdd (ev x) off with
        | some v => val v nx
        | none => Rd.fail
      | none => Rd.fail
    | _ => Rd.fail
  | .field s x f => match C.ty s with
    | some (.st u) => match u.fieldOf f, ev x with
      | some (off, t), .agg cs => if ((cs.drop off).take t.cells).length = t.cells then val (wrapSt t ((cs.drop off).take t.cells)) nx else Rd.fail
      | _, _ => Rd.fail
    | _ => Rd.fail
  | .indexAddr t x i => evIndexAddr C nx t (ev x) (ev i)
  | .index t x i => if C.ty t = some .str then match ev x, ev i with
    | .str s, .int _ i => valG [inb i (ssize s)] (.int .u8 (sget s i)) nx
    | _, _ => Rd.fail
    else Rd.fail
  | .extract x i => match ev x with
    | .tup vs => match vs[i]? with
      | some v => val v nx
      | none => Rd.fail
    | _ => Rd.fail
  | .call { callee := .builtin b, args, argTypes } => evBuiltin C nx b argTypes.toList (args.toList.map ev)
  | _ => Rd.fail

/-! ### The state -/
def setL {α : Type} (d : α) : List α → Nat → α → List α
  | [], _, _ => []
  | _ :: l, 0, v => v :: l
  | a :: l, n + 1, v => a :: setL d l n v

/-- An object laid at its number, the list lengthened to it. -/
def putOb : List (Option Ob) → Nat → Option Ob → List (Option Ob)
  | [], 0, v => [v]
  | [], n + 1, v => none :: putOb [] n v
  | _ :: l, 0, v => v :: l
  | a :: l, n + 1, v => a :: putOb l n v

def St.set (S : St) (d : Option Nat) (v : FV) : St := match d with
  | some d => { S with tmps := setL .bad S.tmps d v }
  | none => S

def St.apply (S : St) (d : Option Nat) (e : Eff) : St :=
  ({ S with objs := e.puts.foldl (fun l p => putOb l p.1 p.2) S.objs } : St).set d e.val

section run
variable {R : Type}

abbrev Rec := (en : Entry) → List Item → St → Option en.R

/-- The code of an entry's function. -/
def codeOf (P : Program) (en : Entry) : Option (Func × Code) := match P.funcs[en.fid]? with
  | some fn => match fn.body with
    | some c => some (fn, c)
    | none => none
  | none => none

def callE (P : Program) (rec : Rec) (en : Entry) (x : (argT en.ps).den) : Option en.R :=
  match en.hook with
  | some h => h x
  | none => match codeOf P en with
    | some (fn, c) => rec en [.code c] (entered en x fn.ntmps)
    | none => none

def addNew (l : List Nat) : List Nat → List Nat
  | [] => l
  | a :: m => addNew (if l.contains a then l else l ++ [a]) m

/-- What was looked at, what was written. -/
abbrev Fp := List Nat × List Nat

def effFp (l : List Nat) (e : Eff) : Fp := (l, e.puts.map (·.1))

/-- The operation at the head, and what goes on behind. -/
def evOne (C : Ctx) (P : Program) (rec : Rec) (nx : Nat) (o : Oper) (S : St) (K : Fp → St → Nat → Option R) : Option R :=
  match o.op with
  | .pick c a b => match S.ev c with
    | .bool q => br q (K ([], []) (S.set o.dst (S.ev a)) nx) (K ([], []) (S.set o.dst (S.ev b)) nx)
    | _ => none
  | .call { callee := .value f, args, .. } => match S.ev f with
    | .clo g first caps => match asked C nx g (first ++ args.toList.map S.ev ++ caps) S.ob with
      | some (l, q) => bd (callE P rec q.en q.x) fun y => match q.fin y with
        | some e => br (Nat.ble nx e.nx) (gd e.guards (K (effFp l e) (S.apply o.dst e) e.nx)) none
        | none => none
      | none => none
    | _ => none
  | op => match evOp C nx S.ev op S.ob with
    | some (l, e) => br (Nat.ble nx e.nx) (gd e.guards (K (effFp l e) (S.apply o.dst e) e.nx)) none
    | none => none

/-- The operations of a region, one behind the other. -/
def evOps (C : Ctx) (P : Program) (rec : Rec) (all : Array Oper) : Nat → List Oper → List Fp → St → (List Fp → St → Option R) → Option R
  | _, [], acc, S, K => K acc S
  | nx, o :: l, acc, S, K => match o.guard with
    | none => evOne C P rec nx o S fun fp S nx => evOps C P rec all nx l (acc ++ [fp]) S K
    | some (j, want) => match (all[j]?).bind (·.dst) with
      | some d => match S.tmp d with
        | .bool q =>
          let yes (b : Bool) : Option R := evOne C P rec nx o (S.set (some d) (.bool b)) fun fp S nx => evOps C P rec all nx l (acc ++ [fp]) S K
          let no (b : Bool) : Option R := evOps C P rec all nx l (acc ++ [([], [])]) ((S.set (some d) (.bool b)).set o.dst .bad) K
          match want with
          | true => br q (yes true) (no false)
          | false => br q (no true) (yes false)
        | _ => none
      | none => none

/-! ### Regions whose order is drawn -/
def optL : Option Nat → List Nat
  | some d => [d]
  | none => []
def readsOf (ops : Array Oper) (o : Oper) : List Nat :=
  o.op.operands.toList.flatMap (fun | .tmp t => [t] | _ => []) ++ (match o.guard with
    | some (j, _) => optL ((ops[j]?).bind (·.dst))
    | none => [])
def memB (a : Nat) : List Nat → Bool
  | [] => false
  | b :: l => Nat.beq a b || memB a l
def meetB : List Nat → List Nat → Bool
  | [], _ => false
  | a :: l, m => memB a m || meetB l m
/-- Whether two operations must keep their order. -/
def clash (ops : Array Oper) (oi oj : Oper) (fi fj : Fp) : Bool :=
  meetB (optL oi.dst) (readsOf ops oj ++ optL oj.dst) || meetB (optL oj.dst) (readsOf ops oi) || meetB fi.2 (fj.1 ++ fj.2) || meetB fj.2 fi.1
def bindsOf (o : Oper) : List Nat := (o.after.toList.filter (Region.binds .any)).map (·.on)
/-- Of each operation those that come before it in any order. -/
def ancs : List Oper → List (List Nat) → List (List Nat)
  | [], acc => acc
  | o :: l, acc => ancs l (acc ++ [addNew [] ((bindsOf o).flatMap fun i => i :: acc.getD i [])])
def orderRow (ops : Array Oper) (oj : Oper) (fj : Fp) (an : List Nat) : Nat → List Oper → List Fp → Bool
  | i, oi :: os, fi :: fs => (!clash ops oi oj fi fj || memB i an) && orderRow ops oj fj an (i + 1) os fs
  | _, [], [] => true
  | _, _, _ => false
def ltAll (l : List Nat) (n : Nat) : Bool := l.all fun a => Nat.blt a n
def orderGo (ops : Array Oper) : List Oper → List Fp → List (List Nat) → List Oper → List Fp → Bool
  | [], [], _, _, _ => true
  | oj :: os, fj :: fs, an :: as, po, pf => ltAll (bindsOf oj) po.length && orderRow ops oj fj an 0 po pf && orderGo ops os fs as (po ++ [oj]) (pf ++ [fj])
  | _, _, _, _, _ => false
def orderOk (ops : Array Oper) (fps : List Fp) : Bool := orderGo ops ops.toList fps (ancs ops.toList []) [] []
def ordered {α : Type} (draw : Bool) (ops : Array Oper) (fps : List Fp) (k : Option α) : Option α := match draw with
  | true => br (orderOk ops fps) k none
  | false => k

/-! ### What is kept at a loop's head -/
def idsOf : Nat → FV → List Nat
  | 0, _ => []
  | d + 1, v => match v with
    | .isl (some (o, _)) _ _ => [o.1]
    | .osl o _ _ => [o]
    | .fsl o => [o]
    | .ptr o _ => [o]
    | .ept o _ _ => [o]
    | .vpt none cs => cs.flatMap (idsOf d)
    | .vpt (some (o, _)) cs => o.1 :: cs.flatMap (idsOf d)
    | .clo _ a b => (a ++ b).flatMap (idsOf d)
    | .agg cs => cs.flatMap (idsOf d)
    | .tup cs => cs.flatMap (idsOf d)
    | _ => []

def idsIn (S : St) (o : Nat) : List Nat := match S.ob o with
  | some (.box cs) => cs.flatMap (idsOf 6)
  | _ => []

def place (a : Nat) : List Nat → Option Nat
  | [] => none
  | b :: l => if b = a then some 0 else match place a l with
    | some n => some (n + 1)
    | none => none

/-- A tag behind a numbering anew: what it was read from must be as it was. -/
def renTag (f : Nat → Option (Nat × Nat)) : Tag → Option Tag
  | none => some none
  | some (o, p) => match f o.1 with
    | some (o', v) => if v = o.2 then some (some ((o', 0), p)) else none
    | none => none

def renId (f : Nat → Option (Nat × Nat)) (o : Nat) : Option Nat := match f o with
  | some (o', _) => some o'
  | none => none

mutual
def FV.ren (f : Nat → Option (Nat × Nat)) : FV → FV
  | .isl tg e xs => match renTag f tg with
    | some tg => .isl tg e xs
    | none => .bad
  | .fsl o => match renId f o with
    | some o' => .fsl o'
    | none => .bad
  | .osl o lo n => match renId f o with
    | some o' => .osl o' lo n
    | none => .bad
  | .ptr o off => match renId f o with
    | some o' => .ptr o' off
    | none => .bad
  | .ept o i off => match renId f o with
    | some o' => .ept o' i off
    | none => .bad
  | .vpt tg cs => match renTag f tg with
    | some tg => .vpt tg (renL f cs)
    | none => .bad
  | .clo g a b => .clo g (renL f a) (renL f b)
  | .agg cs => .agg (renL f cs)
  | .tup cs => .tup (renL f cs)
  | v => v
def renL (f : Nat → Option (Nat × Nat)) : List FV → List FV
  | [] => []
  | v :: l => v.ren f :: renL f l
end

def Ob.ren (f : Nat → Option (Nat × Nat)) : Ob → Ob
  | .box cs => .box (renL f cs)
  | .arr e xs lv d _ => .arr e xs lv d 0

/-- Of the slots only those that are named. -/
def keep (L : List Nat) : Nat → List FV → List FV
  | _, [] => []
  | i, v :: l => (if L.contains i then v else .bad) :: keep L (i + 1) l

/-- The renumbering. -/
def rf (S : St) (ls : List Nat) : Nat → Option (Nat × Nat) := fun o => match place o ls with
  | some n => some (n, match S.ob o with
    | some (.arr _ _ _ _ v) => v
    | _ => 0)
  | none => none

/-- Forget what is not wanted, number the objects anew. -/
def norm (np : Nat) (L : List Nat) (S : St) : Option St :=
  let ts := keep L 0 S.tmps
  let l0 := addNew (List.range np) (ts.flatMap (idsOf 6))
  let l1 := addNew l0 (l0.flatMap (idsIn S))
  let l2 := addNew l1 (l1.flatMap (idsIn S))
  let f := rf S l2
  if nodupB l2 then some { tmps := renL f ts, objs := l2.map fun o => (S.ob o).map (Ob.ren f) } else none

def firstReg : Code → Option Nat
  | .region id _ _ => some id
  | .seq a b => match firstReg a with
    | some n => some n
    | none => firstReg b
  | .block _ c | .loop c | .scope c => firstReg c
  | .cond _ a b => match firstReg a with
    | some n => some n
    | none => firstReg b
  | _ => none

def lookL (k : Nat) : List (Nat × List Nat) → Option (List Nat)
  | [] => none
  | (j, l) :: m => if j = k then some l else lookL k m
def lookLL (k : Nat) : List (Nat × List (Nat × List Nat)) → List (Nat × List Nat)
  | [] => []
  | (j, l) :: m => if j = k then l else lookLL k m

def liveAt (C : Ctx) (fid : Nat) (c : Code) : Option (List Nat) := match firstReg c with
  | some r => lookL r (lookLL fid C.live)
  | none => none

def toLoop (C : Ctx) (rec : Rec) (en : Entry) (c : Code) (k : List Item) (S : St) : Option en.R :=
  match liveAt C en.fid c with
  | some L => match norm (pins en.ps) L S with
    | some S => rec en (.inLoop c :: k) S
    | none => none
  | none => none

/-- The walk through the code of a function, up to its end or to the head of a loop. -/
noncomputable def walk (C : Ctx) (P : Program) (rec : Rec) (en : Entry) (rv : Array ResultVar) : Nat → List Item → St → Option en.R
  | 0, _, _ => none
  | n + 1, todo, S => match todo with
    | [] => finish C en rv S
    | .code c :: k => match c with
      | .skip => walk C P rec en rv n k S
      | .label _ => walk C P rec en rv n k S
      | .region _ ops draw => evOps C P rec ops S.objs.length ops.toList [] S fun fps S => ordered draw ops fps (walk C P rec en rv n k S)
      | .seq a b => walk C P rec en rv n (.code a :: .code b :: k) S
      | .cond c a b => match S.ev c with
        | .bool q => match c with
          | .tmp t => br q (walk C P rec en rv n (.code a :: k) (S.set (some t) (.bool true))) (walk C P rec en rv n (.code b :: k) (S.set (some t) (.bool false)))
          | _ => br q (walk C P rec en rv n (.code a :: k) S) (walk C P rec en rv n (.code b :: k) S)
        | .nilb m => match c with
          | .tmp t => nilbr m (walk C P rec en rv n (.code a :: k) (S.set (some t) (.bool true))) (walk C P rec en rv n (.code b :: k) (S.set (some t) (.bool false)))
          | _ => none
        | _ => none
      | .block id c => walk C P rec en rv n (.code c :: .inBlock id :: k) S
      | .loop c => toLoop C rec en c k S
      | .exit id => match exitTo id k with
        | some k => walk C P rec en rv n k S
        | none => none
      | .ret => finish C en rv S
      | _ => none
    | .inBlock _ :: k => walk C P rec en rv n k S
    | .inLoop c :: k => toLoop C rec en c k S
    | _ => none

def headed : List Item → List Item
  | .inLoop c :: k => .code c :: .inLoop c :: k
  | k => k

noncomputable def body (C : Ctx) (P : Program) (rec : Rec) : Rec := fun en todo S =>
  match P.funcs[en.fid]? with
  | some fn => walk C P rec en fn.results 4000 (headed todo) S
  | none => none

/-- So many rounds and calls, one within the other. -/
noncomputable def runs (C : Ctx) (P : Program) : Nat → Rec
  | 0 => fun _ _ _ => none
  | n + 1 => body C P (runs C P n)
end run

/-! ### Loops by the number of their first region; states written short -/
def findLoop (r : Nat) : Code → List Item → Option (List Item)
  | .seq a b, k => match findLoop r a (.code b :: k) with
    | some l => some l
    | none => findLoop r b k
  | .block id c, k => findLoop r c (.inBlock id :: k)
  | .loop c, k => if firstReg c = some r then some (.inLoop c :: k) else findLoop r c (.inLoop c :: k)
  | .cond _ a b, k => match findLoop r a k with
    | some l => some l
    | none => findLoop r b k
  | _, _ => none

def loopAt (P : Program) (en : Entry) (r : Nat) : List Item := match codeOf P en with
  | some (_, c) => match findLoop r c [] with
    | some l => l
    | none => []
  | none => []

/-- Slots: n in all, those that are named hold something. -/
def slots : Nat → Nat → List (Nat × FV) → List FV
  | 0, _, _ => []
  | n + 1, i, [] => .bad :: slots n (i + 1) []
  | n + 1, i, (j, v) :: l => if j = i then v :: slots n (i + 1) l else .bad :: slots n (i + 1) ((j, v) :: l)
end Go.Evr

namespace Go.Evr
/-- What the walk comes to at however many rounds. -/
noncomputable def MM (C : Ctx) (P : Program) : Rec := fun en todo S =>
  open Classical in if h : ∃ r n, runs C P n en todo S = some r then some (Classical.choose h) else none
def startOf (P : Program) (en : Entry) : List Item := match codeOf P en with
  | some (_, c) => [.code c]
  | none => []
def ntmpsOf (P : Program) (en : Entry) : Nat := match codeOf P en with
  | some (fn, _) => fn.ntmps
  | none => 0
end Go.Evr

namespace Go.Evr

abbrev Zone := Nat → Nat → Prop

/-- Cells that lie in memory one behind the other, in a zone. -/
def At (Z : Zone) (W : World) (b k : Nat) (cs : List Value) : Prop :=
  ∀ j v, cs[j]? = some v → Z b (k + j) ∧ W.cell? ⟨b, k + j, none⟩ = some v

/-- Cells that stand for a datum; arrays within it lie in the zone. -/
def Rep (Z : Zone) (W : World) : (t : Ty) → t.den → List Value → Prop
  | .int k, n, vs => vs = [.int k n]
  | .bool, b, vs => vs = [.bool b]
  | .str, s, vs => vs = [.string s]
  | .sl e, xs, vs => ∃ a cap, vs = [.slice a xs.length cap] ∧ xs.length ≤ cap ∧
      ∀ i (h : i < xs.length), ∃ b k cs, a = some ⟨b, k, none⟩ ∧ Rep Z W e xs[i] cs ∧ At Z W b (k + i * e.cells) cs
  | .unit, _, vs => vs = []
  | .pair a b, x, vs => ∃ v1 v2, vs = v1 ++ v2 ∧ Rep Z W a x.1 v1 ∧ Rep Z W b x.2 v2
  | .st t, x, vs => Rep Z W t x vs
  | .ref, _, vs => vs.length = 1 ∧ ∀ v ∈ vs, v.oneCell' = true

/-- Cells of an owner's: there, and not frozen. -/
def Mine (W : World) (b k n : Nat) : Prop := ∀ j, j < n → (∃ v, W.cell? ⟨b, k + j, none⟩ = some v) ∧ W.frozen? ⟨b, k + j, none⟩ = false

/-- Cells that stand for a datum whose arrays are all its own, each apart from the others, all in the zone. -/
def Own (Z : Zone) (W : World) : (t : Ty) → t.den → List Value → Prop
  | .int k, n, vs => vs = [.int k n]
  | .bool, b, vs => vs = [.bool b]
  | .str, s, vs => vs = [.string s]
  | .sl e, xs, vs => ∃ a cap, vs = [.slice a xs.length cap] ∧ xs.length ≤ cap ∧ (cap = 0 ∨ ∃ b k, a = some ⟨b, k, none⟩ ∧
      ∃ ZM : Zone, ∃ ZR : Nat → Zone, (∀ b' k', ZM b' k' → Z b' k') ∧ (∀ j, j < cap * e.cells → ZM b (k + j)) ∧ Mine W b k (cap * e.cells) ∧
        (∀ i b' k', ZR i b' k' → Z b' k' ∧ ¬ ZM b' k') ∧ (∀ i j b' k', ZR i b' k' → ZR j b' k' → i = j) ∧
        ∀ i (h : i < xs.length), ∃ cs, Own (ZR i) W e xs[i] cs ∧ ∀ j v, cs[j]? = some v → W.cell? ⟨b, k + i * e.cells + j, none⟩ = some v)
  | .unit, _, vs => vs = []
  | .pair a b, x, vs => ∃ v1 v2, vs = v1 ++ v2 ∧ ∃ Z1 Z2 : Zone, (∀ b' k', Z1 b' k' → Z b' k') ∧ (∀ b' k', Z2 b' k' → Z b' k') ∧ (∀ b' k', Z1 b' k' → ¬ Z2 b' k') ∧ Own Z1 W a x.1 v1 ∧ Own Z2 W b x.2 v2
  | .st t, x, vs => Own Z W t x vs
  | .ref, _, vs => vs.length = 1 ∧ ∀ v ∈ vs, v.oneCell' = true

theorem Rep.len {Z : Zone} {W : World} : ∀ {t : Ty} {x : t.den} {vs : List Value}, Rep Z W t x vs → vs.length = t.cells
  | .int _, _, _, h => by cases h; rfl
  | .bool, _, _, h => by cases h; rfl
  | .str, _, _, h => by cases h; rfl
  | .sl _, _, _, h => by obtain ⟨a, cap, h, _⟩ := h; cases h; rfl
  | .unit, _, _, h => by cases h; rfl
  | .pair a b, x, _, h => by
    obtain ⟨v1, v2, rfl, h1, h2⟩ := h
    rw [List.length_append, Rep.len h1, Rep.len h2]; rfl
  | .st t, x, _, h => Rep.len (t := t) h
  | .ref, _, _, h => h.1

theorem Own.len {Z : Zone} {W : World} : ∀ {t : Ty} {x : t.den} {vs : List Value}, Own Z W t x vs → vs.length = t.cells
  | .int _, _, _, h => by cases h; rfl
  | .bool, _, _, h => by cases h; rfl
  | .str, _, _, h => by cases h; rfl
  | .sl _, _, _, h => by obtain ⟨a, cap, h, _⟩ := h; cases h; rfl
  | .unit, _, _, h => by cases h; rfl
  | .pair a b, x, _, h => by
    obtain ⟨v1, v2, rfl, Z1, Z2, _, _, _, h1, h2⟩ := h
    rw [List.length_append, Own.len h1, Own.len h2]; rfl
  | .st t, x, _, h => Own.len (Z := Z) (t := t) h
  | .ref, _, _, h => h.1

theorem Rep.one {Z : Zone} {W : World} : ∀ {t : Ty} {x : t.den} {vs : List Value}, Rep Z W t x vs → ∀ v ∈ vs, v.oneCell' = true
  | .int _, _, _, h => by cases h; simp [Value.oneCell']
  | .bool, _, _, h => by cases h; simp [Value.oneCell']
  | .str, _, _, h => by cases h; simp [Value.oneCell']
  | .sl e, _, _, h => by obtain ⟨a, cap, h, _⟩ := h; cases h; simp [Value.oneCell']
  | .unit, _, _, h => by cases h; simp
  | .pair a b, x, _, h => by
    obtain ⟨v1, v2, rfl, h1, h2⟩ := h
    intro v hv
    exact (List.mem_append.1 hv).elim (Rep.one h1 v) (Rep.one h2 v)
  | .st t, x, _, h => Rep.one (t := t) h
  | .ref, _, _, h => h.2

theorem At.mono {Z Z' : Zone} {W W' : World} {b k : Nat} {cs : List Value} (h : At Z W b k cs)
    (hz : ∀ b k v, Z b k → W.cell? ⟨b, k, none⟩ = some v → Z' b k ∧ W'.cell? ⟨b, k, none⟩ = some v) : At Z' W' b k cs := by
  intro j v hj
  obtain ⟨h1, h2⟩ := h j v hj
  exact hz _ _ _ h1 h2

theorem Rep.mono {Z Z' : Zone} {W W' : World} (hz : ∀ b k v, Z b k → W.cell? ⟨b, k, none⟩ = some v → Z' b k ∧ W'.cell? ⟨b, k, none⟩ = some v) :
    ∀ {t : Ty} {x : t.den} {vs : List Value}, Rep Z W t x vs → Rep Z' W' t x vs
  | .int _, _, _, h => h
  | .bool, _, _, h => h
  | .str, _, _, h => h
  | .sl e, xs, _, h => by
    obtain ⟨a, cap, h1, h2, h3⟩ := h
    refine ⟨a, cap, h1, h2, fun i hi => ?_⟩
    obtain ⟨b, k, cs, ha, hr, hat⟩ := h3 i hi
    exact ⟨b, k, cs, ha, Rep.mono hz hr, hat.mono hz⟩
  | .unit, _, _, h => h
  | .pair a b, x, _, h => by
    obtain ⟨v1, v2, he, h1, h2⟩ := h
    exact ⟨v1, v2, he, Rep.mono hz h1, Rep.mono hz h2⟩
  | .st t, x, _, h => Rep.mono (t := t) hz h
  | .ref, _, _, h => h

theorem Own.mono {W W' : World} : ∀ {t : Ty} {Z Z' : Zone} {x : t.den} {vs : List Value}, Own Z W t x vs → (∀ b k, Z b k → Z' b k) →
    (∀ b k v, Z b k → W.cell? ⟨b, k, none⟩ = some v → W'.cell? ⟨b, k, none⟩ = some v) → (∀ b k, Z b k → W.frozen? ⟨b, k, none⟩ = false → W'.frozen? ⟨b, k, none⟩ = false) → Own Z' W' t x vs
  | .int _, _, _, _, _, h, _, _, _ => h
  | .bool, _, _, _, _, h, _, _, _ => h
  | .str, _, _, _, _, h, _, _, _ => h
  | .sl e, Z, Z', xs, _, h, hz, hc, hf => by
    obtain ⟨a, cap, h1, h2, h3⟩ := h
    refine ⟨a, cap, h1, h2, h3.imp id ?_⟩
    rintro ⟨b, k, ha, ZM, ZR, m1, m2, m3, r1, r2, r3⟩
    refine ⟨b, k, ha, ZM, ZR, fun _ _ h => hz _ _ (m1 _ _ h), m2, fun j hj => ?_, fun i b' k' h => ⟨hz _ _ (r1 i _ _ h).1, (r1 i _ _ h).2⟩, r2, fun i hi => ?_⟩
    · obtain ⟨⟨v, hv⟩, h⟩ := m3 j hj
      have hm := m1 _ _ (m2 j hj)
      exact ⟨⟨v, hc _ _ _ hm hv⟩, hf _ _ hm h⟩
    · obtain ⟨cs, ho, hcs⟩ := r3 i hi
      refine ⟨cs, Own.mono ho (fun _ _ h => h) (fun b k v h => hc b k v (r1 i _ _ h).1) (fun b k h => hf b k (r1 i _ _ h).1), fun j v hj => ?_⟩
      have hlen := Own.len ho
      have hjl : j < cs.length := (List.getElem?_eq_some_iff.1 hj).1
      have hlt : i * e.cells + j < cap * e.cells := by
        have : i + 1 ≤ cap := by omega
        have := Nat.mul_le_mul_right e.cells this
        rw [Nat.add_mul] at this
        omega
      have := m2 _ hlt
      rw [← Nat.add_assoc] at this
      exact hc _ _ _ (m1 _ _ this) (hcs j v hj)
  | .unit, _, _, _, _, h, _, _, _ => h
  | .pair a b, Z, Z', x, _, h, hz, hc, hf => by
    obtain ⟨v1, v2, he, Z1, Z2, s1, s2, s3, h1, h2⟩ := h
    exact ⟨v1, v2, he, Z1, Z2, fun _ _ h => hz _ _ (s1 _ _ h), fun _ _ h => hz _ _ (s2 _ _ h), s3,
      Own.mono h1 (fun _ _ h => h) (fun b k v h => hc b k v (s1 _ _ h)) (fun b k h => hf b k (s1 _ _ h)),
      Own.mono h2 (fun _ _ h => h) (fun b k v h => hc b k v (s2 _ _ h)) (fun b k h => hf b k (s2 _ _ h))⟩
  | .st t, _, _, x, _, h, hz, hc, hf => Own.mono (t := t) h hz hc hf
  | .ref, _, _, _, _, h, _, _, _ => h

/-- What is owned can be read. -/
theorem Own.rep {W : World} : ∀ {t : Ty} {Z : Zone} {x : t.den} {vs : List Value}, Own Z W t x vs → Rep Z W t x vs
  | .int _, _, _, _, h => h
  | .bool, _, _, _, h => h
  | .str, _, _, _, h => h
  | .sl e, Z, xs, _, h => by
    obtain ⟨a, cap, h1, h2, h3⟩ := h
    refine ⟨a, cap, h1, h2, fun i hi => ?_⟩
    rcases h3 with h3 | ⟨b, k, ha, ZM, ZR, m1, m2, m3, r1, r2, r3⟩
    · omega
    obtain ⟨cs, ho, hcs⟩ := r3 i hi
    refine ⟨b, k, cs, ha, Rep.mono (fun b k v h hv => ⟨(r1 i _ _ h).1, hv⟩) (Own.rep ho), fun j v hj => ⟨?_, hcs j v hj⟩⟩
    have hlen := Own.len ho
    have hjl : j < cs.length := (List.getElem?_eq_some_iff.1 hj).1
    have hlt : i * e.cells + j < cap * e.cells := by
      have : i + 1 ≤ cap := by omega
      have := Nat.mul_le_mul_right e.cells this
      rw [Nat.add_mul] at this
      omega
    have := m2 _ hlt
    rw [← Nat.add_assoc] at this
    exact m1 _ _ this
  | .unit, _, _, _, h => h
  | .pair a b, Z, x, _, h => by
    obtain ⟨v1, v2, he, Z1, Z2, s1, s2, s3, h1, h2⟩ := h
    exact ⟨v1, v2, he, Rep.mono (fun b k v h hv => ⟨s1 _ _ h, hv⟩) (Own.rep h1), Rep.mono (fun b k v h hv => ⟨s2 _ _ h, hv⟩) (Own.rep h2)⟩
  | .st t, Z, x, _, h => Own.rep (t := t) (Z := Z) h
  | .ref, _, _, _, h => h
end Go.Evr

namespace Go.Evr

inductive Loc where
  | box (b k : Nat)
  | arr (a : Option Addr) (cap : Nat)

/-- How what is reckoned with lies in a world. -/
structure Cx where
  own : Nat → Nat → Option (Nat × Bool)
  loc : Nat → Loc
  ob : Nat → Option Ob
  W : World

def zoneOf (own : Nat → Nat → Option (Nat × Bool)) (t : Tag) : Zone := fun b k => own b k = none ∨ ∃ q, t = some q ∧ own b k = some (q.1.1, false)

def tagLive (ob : Nat → Option Ob) : Tag → Prop
  | none => True
  | some (q, _) => ∃ e xs l d, ob q.1 = some (.arr e xs l d q.2)

/-- The cell of a row that holds a slice, and what it holds. -/
def cellSl : (t : Ty) → t.den → Nat → (e : Ty) → List e.den → Prop
  | .sl e', xs, c, e, ys => c = 0 ∧ e' = e ∧ HEq xs ys
  | .pair a b, x, c, e, ys => if c < a.cells then cellSl a x.1 c e ys else cellSl b x.2 (c - a.cells) e ys
  | .st t, x, c, e, ys => cellSl t x c e ys
  | _, _, _, _, _ => False

def PathOk (X : Cx) : Tag → (e : Ty) → List e.den → Value → Prop
  | some (q, some (i, c)), e, xs, v => ∀ e' us l d, X.ob q.1 = some (.arr e' us l d q.2) → ∃ b k cap, X.loc q.1 = .arr (some ⟨b, k, none⟩) cap ∧
      ∃ h : i < us.length, cellSl e' us[i] c e xs ∧ X.W.cell? ⟨b, k + i * e'.cells + c, none⟩ = some v
  | _, _, _, _ => True

def SlN (n : Nat) (v : Value) : Prop := ∃ a c, v = .slice a n c
def SlV (v : Value) : Prop := ∃ a n c, v = .slice a n c
def PtV (v : Value) : Prop := ∃ a, v = .pointer (some a)

mutual
/-- A value as it is reckoned with, and as it is. -/
def VRel (X : Cx) : FV → Value → Prop
  | .bad, _ => True
  | .int k n, v => v = .int k n
  | .bool b, v => v = .bool b
  | .str s, v => v = .string s
  | .nsl, v => ∃ a, v = .slice a 0 0
  | .isl t e xs, v => SlN xs.length v ∧ (tagLive X.ob t → Rep (zoneOf X.own t) X.W (.sl e) xs [v]) ∧ PathOk X t e xs v
  | .fsl o, v => SlV v ∧ ∀ e xs l d ver, X.ob o = some (.arr e xs l d ver) → ∃ a cap, X.loc o = .arr a cap ∧ v = .slice a xs.length cap
  | .osl o lo n, v => SlN n v ∧ ∀ e xs l d ver, X.ob o = some (.arr e xs l d ver) → ∃ a cap, X.loc o = .arr a cap ∧ lo + n ≤ xs.length ∧
      ∃ a', v = .slice a' n (cap - lo) ∧ (lo < cap → ∃ b k, a = some ⟨b, k, none⟩ ∧ a' = some ⟨b, k + lo * e.cells, none⟩)
  | .ptr o off, v => PtV v ∧ ∀ cs, X.ob o = some (.box cs) → ∃ b k, X.loc o = .box b k ∧ v = .pointer (some ⟨b, k + off, none⟩)
  | .ept o i off, v => PtV v ∧ ∀ e xs l d ver, X.ob o = some (.arr e xs l d ver) → ∃ b k cap, X.loc o = .arr (some ⟨b, k, none⟩) cap ∧ i < xs.length ∧
      v = .pointer (some ⟨b, k + i * e.cells + off, none⟩)
  | .vpt t cs, v => ∃ b k, v = .pointer (some ⟨b, k, none⟩) ∧ (tagLive X.ob t → ∃ us, At (zoneOf X.own t) X.W b k us ∧ LRel X cs us)
  | .clo f a b, v => ∃ fs cs : List Value, v = .func (.func f) fs.toArray cs.toArray ∧ LRel X a fs ∧ LRel X b cs
  | .nilp, v => v = .pointer none ∨ v = .nilFunc
  | .agg cs, v => ∃ us : List Value, v = .agg us.toArray ∧ LRel X cs us
  | .tup cs, v => ∃ us : List Value, v = .tuple us.toArray ∧ LRel X cs us
  | .nilb n, v => ∃ b, v = .bool b ∧ (b = true → n = 0)
def LRel (X : Cx) : List FV → List Value → Prop
  | [], vs => vs = []
  | c :: cs, vs => ∃ v us, vs = v :: us ∧ VRel X c v ∧ LRel X cs us
end

mutual
/-- The objects (and their states) that a value names are known. -/
def FV.ok (D : Nat → Nat → Prop) : FV → Prop
  | .isl t _ _ => ∀ q, t = some q → D q.1.1 q.1.2
  | .fsl o => D o 0
  | .osl o _ _ => D o 0
  | .ptr o _ => D o 0
  | .ept o _ _ => D o 0
  | .vpt t cs => (∀ q, t = some q → D q.1.1 q.1.2) ∧ okL D cs
  | .clo _ a b => okL D a ∧ okL D b
  | .agg cs => okL D cs
  | .tup cs => okL D cs
  | _ => True
def okL (D : Nat → Nat → Prop) : List FV → Prop
  | [] => True
  | v :: l => v.ok D ∧ okL D l
end

def Ob.ok (D : Nat → Nat → Prop) : Ob → Prop
  | .box cs => okL D cs
  | .arr .. => True

/-- Rows of an array in memory. -/
def Rows (X : Cx) (o : Nat) (e : Ty) (xs : List e.den) (live deep : Bool) (b k : Nat) : Prop :=
  match live, deep with
  | true, true => ∃ ZR : Nat → Zone, (∀ i b' k', ZR i b' k' → X.own b' k' = some (o, false)) ∧ (∀ i j b' k', ZR i b' k' → ZR j b' k' → i = j) ∧
      ∀ i (h : i < xs.length), ∃ cs, Own (ZR i) X.W e xs[i] cs ∧ ∀ j v, cs[j]? = some v → X.W.cell? ⟨b, k + i * e.cells + j, none⟩ = some v
  | true, false => ∀ i (h : i < xs.length), ∃ cs, Rep (zoneOf X.own none) X.W e xs[i] cs ∧ ∀ j v, cs[j]? = some v → X.W.cell? ⟨b, k + i * e.cells + j, none⟩ = some v
  | false, _ => ∀ i (h : i < xs.length), ∃ cs, Rep (zoneOf X.own none) X.W e xs[i] cs ∧ At (zoneOf X.own none) X.W b (k + i * e.cells) cs

def ObRel (X : Cx) (o : Nat) : Ob → Prop
  | .box cs => ∃ b k us, X.loc o = .box b k ∧ LRel X cs us ∧ ∀ j v, us[j]? = some v → X.own b (k + j) = some (o, true) ∧ X.W.cell? ⟨b, k + j, none⟩ = some v ∧ X.W.frozen? ⟨b, k + j, none⟩ = false
  | .arr e xs l d _ => ∃ a cap, X.loc o = .arr a cap ∧ xs.length ≤ cap ∧ (cap = 0 ∨ ∃ b k, a = some ⟨b, k, none⟩ ∧
      (l = true → (∀ j, j < cap * e.cells → X.own b (k + j) = some (o, true)) ∧ Mine X.W b k (cap * e.cells)) ∧ Rows X o e xs l d b k)

/-- What the memory outside a region keeps. -/
structure Frm (R : Zone) (W W' : World) : Prop where
  os : W'.os = W.os
  tape : W'.tape = W.tape
  output : W'.output = W.output
  size : W.heap.size ≤ W'.heap.size
  block : ∀ b, b < W.heap.size → (∀ k, ¬ R b k) → W'.heap[b]? = W.heap[b]?
  cell : ∀ b k v, ¬ R b k → W.cell? ⟨b, k, none⟩ = some v → W'.cell? ⟨b, k, none⟩ = some v
  frozen : ∀ b k, b < W.heap.size → ¬ R b k → W'.frozen? ⟨b, k, none⟩ = W.frozen? ⟨b, k, none⟩

theorem Frm.refl (R : Zone) (W : World) : Frm R W W := ⟨rfl, rfl, rfl, Nat.le_refl _, fun _ _ _ => rfl, fun _ _ _ _ h => h, fun _ _ _ _ => rfl⟩

/-- What stays through a call: the world at its begin, what may be written, where the first objects lie. -/
structure Env where
  W0 : World
  R0 : Zone
  np : Nat
  L0 : Nat → Loc
  us : List Value

/-- The state and the world. -/
structure Inv (X : Cx) (D : Nat → Nat → Prop) (E : Env) (S : St) (tm : List Value) : Prop where
  ob : ∀ o, X.ob o = S.ob o
  dom : ∀ b k o m, X.own b k = some (o, m) → b < X.W.heap.size ∧ (E.W0.heap.size ≤ b ∨ E.R0 b k) ∧ ∃ x, S.ob o = some x
  fr : Frm E.R0 E.W0 X.W
  pin : ∀ p, p < E.np → X.loc p = E.L0 p ∧ D p 0
  tmps : LRel X S.tmps tm
  obs : ∀ o x, S.ob o = some x → ObRel X o x
  okt : okL D S.tmps
  oko : ∀ o x, S.ob o = some x → x.ok D
  dob : ∀ o x, S.ob o = some x → D o 0
  dcur : ∀ o e xs l d ver, S.ob o = some (.arr e xs l d ver) → D o ver
  dlen : ∀ o, D o 0 → o < S.objs.length
  dknown : ∀ o v, D o v → D o 0
  dver : ∀ o e xs l d ver, S.ob o = some (.arr e xs l d ver) → ∀ v, D o v → v ≤ ver

/-- What a change keeps, as far as the known objects are concerned. -/
structure Keeps (X X' : Cx) (D : Nat → Nat → Prop) : Prop where
  zone : ∀ b k v, X.own b k = none → X.W.cell? ⟨b, k, none⟩ = some v → X'.own b k = none ∧ X'.W.cell? ⟨b, k, none⟩ = some v
  arr : ∀ o e xs l d ver, X'.ob o = some (.arr e xs l d ver) → D o 0 → ∃ xs0 l0 d0 v0, X.ob o = some (.arr e xs0 l0 d0 v0) ∧ X'.loc o = X.loc o ∧ xs0.length = xs.length
  box : ∀ o cs, X'.ob o = some (.box cs) → D o 0 → ∃ cs0, X.ob o = some (.box cs0) ∧ X'.loc o = X.loc o
  tag : ∀ o e xs l d ver, X'.ob o = some (.arr e xs l d ver) → D o ver → ∃ xs0 l0 d0, X.ob o = some (.arr e xs0 l0 d0 ver) ∧ X'.loc o = X.loc o ∧
    (∀ b k v, X.own b k = some (o, false) → X.W.cell? ⟨b, k, none⟩ = some v → (X'.own b k = none ∨ X'.own b k = some (o, false)) ∧ X'.W.cell? ⟨b, k, none⟩ = some v) ∧
    ∀ i (h : i < xs0.length) c e' ys, cellSl e xs0[i] c e' ys → (∃ h' : i < xs.length, cellSl e xs[i] c e' ys) ∧
      ∀ b k cap v, X.loc o = .arr (some ⟨b, k, none⟩) cap → X.W.cell? ⟨b, k + i * e.cells + c, none⟩ = some v → X'.W.cell? ⟨b, k + i * e.cells + c, none⟩ = some v

theorem Keeps.live {X X' : Cx} {D : Nat → Nat → Prop} (K : Keeps X X' D) {t : Tag} (hd : ∀ q, t = some q → D q.1.1 q.1.2) (h : tagLive X'.ob t) : tagLive X.ob t := by
  cases t with
  | none => trivial
  | some q =>
    obtain ⟨e, xs, l, d, h⟩ := h
    obtain ⟨xs0, l0, d0, h0, _⟩ := K.tag _ _ _ _ _ _ h (hd q rfl)
    exact ⟨e, xs0, l0, d0, h0⟩

theorem Keeps.zoneOf {X X' : Cx} {D : Nat → Nat → Prop} (K : Keeps X X' D) {t : Tag} (hd : ∀ q, t = some q → D q.1.1 q.1.2) (h : tagLive X'.ob t) :
    ∀ b k v, Go.Evr.zoneOf X.own t b k → X.W.cell? ⟨b, k, none⟩ = some v → Go.Evr.zoneOf X'.own t b k ∧ X'.W.cell? ⟨b, k, none⟩ = some v := by
  rintro b k v (hz | ⟨q, rfl, hz⟩) hv
  · exact ⟨Or.inl (K.zone b k v hz hv).1, (K.zone b k v hz hv).2⟩
  · obtain ⟨e, xs, l, d, h⟩ := h
    obtain ⟨xs0, l0, d0, h0, _, h1, _⟩ := K.tag _ _ _ _ _ _ h (hd q rfl)
    obtain ⟨h2, h3⟩ := h1 b k v hz hv
    exact ⟨h2.imp id fun h => ⟨q, rfl, h⟩, h3⟩

theorem Keeps.path {X X' : Cx} {D : Nat → Nat → Prop} (K : Keeps X X' D) {t : Tag} {e : Ty} {xs : List e.den} {v : Value} (hd : ∀ q, t = some q → D q.1.1 q.1.2)
    (h : PathOk X t e xs v) : PathOk X' t e xs v := by
  match t, h, hd with
  | none, _, _ => trivial
  | some (q, none), _, _ => trivial
  | some (q, some (i, c)), h, hd =>
    intro e' us l d hob
    obtain ⟨xs0, l0, d0, h0, hl, _, hp⟩ := K.tag _ _ _ _ _ _ hob (hd _ rfl)
    obtain ⟨b, k, cap, hloc, hi, hc, hv⟩ := h e' xs0 l0 d0 h0
    obtain ⟨⟨hi', hc'⟩, hw⟩ := hp i hi c e xs hc
    exact ⟨b, k, cap, hl.trans hloc, hi', hc', hw b k cap v hloc hv⟩

mutual
theorem VRel.keeps {X X' : Cx} {D : Nat → Nat → Prop} (K : Keeps X X' D) : ∀ {f : FV} {v : Value}, f.ok D → VRel X f v → VRel X' f v
  | .bad, _, _, _ => trivial
  | .int _ _, _, _, h => h
  | .nilb _, _, _, h => h
  | .bool _, _, _, h => h
  | .str _, _, _, h => h
  | .nsl, _, _, h => h
  | .isl t e xs, v, hd, h => ⟨h.1, fun hl => Rep.mono (K.zoneOf hd hl) (h.2.1 (K.live hd hl)), K.path hd h.2.2⟩
  | .fsl o, v, hd, h => ⟨h.1, fun e xs l d ver hob => by
    obtain ⟨xs0, l0, d0, v0, h0, hl, hn⟩ := K.arr _ _ _ _ _ _ hob hd
    obtain ⟨a, cap, h1, h2⟩ := h.2 _ _ _ _ _ h0
    exact ⟨a, cap, hl.trans h1, by rw [h2, hn]⟩⟩
  | .osl o lo n, v, hd, h => ⟨h.1, fun e xs l d ver hob => by
    obtain ⟨xs0, l0, d0, v0, h0, hl, hn⟩ := K.arr _ _ _ _ _ _ hob hd
    obtain ⟨a, cap, h1, h2, h3⟩ := h.2 _ _ _ _ _ h0
    exact ⟨a, cap, hl.trans h1, hn ▸ h2, h3⟩⟩
  | .ptr o off, v, hd, h => ⟨h.1, fun cs hob => by
    obtain ⟨cs0, h0, hl⟩ := K.box _ _ hob hd
    obtain ⟨b, k, h1, h2⟩ := h.2 _ h0
    exact ⟨b, k, hl.trans h1, h2⟩⟩
  | .ept o i off, v, hd, h => ⟨h.1, fun e xs l d ver hob => by
    obtain ⟨xs0, l0, d0, v0, h0, hl, hn⟩ := K.arr _ _ _ _ _ _ hob hd
    obtain ⟨b, k, cap, h1, h2, h3⟩ := h.2 _ _ _ _ _ h0
    exact ⟨b, k, cap, hl.trans h1, hn ▸ h2, h3⟩⟩
  | .vpt t cs, v, hd, h => by
    obtain ⟨b, k, h1, h2⟩ := h
    refine ⟨b, k, h1, fun hl => ?_⟩
    obtain ⟨us, h3, h4⟩ := h2 (K.live hd.1 hl)
    exact ⟨us, h3.mono (K.zoneOf hd.1 hl), LRel.keeps K hd.2 h4⟩
  | .clo f a b, v, hd, h => by
    obtain ⟨fs, cs, h1, h2, h3⟩ := h
    exact ⟨fs, cs, h1, LRel.keeps K hd.1 h2, LRel.keeps K hd.2 h3⟩
  | .nilp, _, _, h => h
  | .agg cs, v, hd, h => by
    obtain ⟨us, h1, h2⟩ := h
    exact ⟨us, h1, LRel.keeps K hd h2⟩
  | .tup cs, v, hd, h => by
    obtain ⟨us, h1, h2⟩ := h
    exact ⟨us, h1, LRel.keeps K hd h2⟩
theorem LRel.keeps {X X' : Cx} {D : Nat → Nat → Prop} (K : Keeps X X' D) : ∀ {l : List FV} {vs : List Value}, okL D l → LRel X l vs → LRel X' l vs
  | [], _, _, h => h
  | f :: l, vs, hd, h => by
    obtain ⟨v, us, h1, h2, h3⟩ := h
    exact ⟨v, us, h1, VRel.keeps K hd.1 h2, LRel.keeps K hd.2 h3⟩
end

mutual
theorem FV.ok.mono {D D' : Nat → Nat → Prop} (h : ∀ o v, D o v → D' o v) : ∀ {f : FV}, f.ok D → f.ok D'
  | .bad, _ => trivial
  | .int _ _, _ => trivial
  | .bool _, _ => trivial
  | .str _, _ => trivial
  | .nsl, _ => trivial
  | .isl _ _ _, k => fun q hq => h _ _ (k q hq)
  | .fsl _, k => h _ _ k
  | .osl _ _ _, k => h _ _ k
  | .ptr _ _, k => h _ _ k
  | .ept _ _ _, k => h _ _ k
  | .vpt _ _, k => ⟨fun q hq => h _ _ (k.1 q hq), okL.mono h k.2⟩
  | .clo _ _ _, k => ⟨okL.mono h k.1, okL.mono h k.2⟩
  | .nilp, _ => trivial
  | .agg _, k => okL.mono h (by exact k)
  | .tup _, k => okL.mono h (by exact k)
  | .nilb _, _ => trivial
theorem okL.mono {D D' : Nat → Nat → Prop} (h : ∀ o v, D o v → D' o v) : ∀ {l : List FV}, okL D l → okL D' l
  | [], _ => trivial
  | _ :: _, k => ⟨FV.ok.mono h k.1, okL.mono h k.2⟩
end
end Go.Evr

namespace Go.Evr

/-! ### Reading -/
theorem Rd.bind_some {α β : Type} {m : Rd α} {f : α → Rd β} {h : Nat → Option Ob} {r : List Nat × β} (e : (m.bind f) h = some r) :
    ∃ l a l' b, m h = some (l, a) ∧ f a h = some (l', b) ∧ r = (l ++ l', b) := by
  unfold Rd.bind at e
  split at e
  · cases e
  · rename_i l a hm
    split at e
    · cases e
    · rename_i l' b hf
      cases e
      exact ⟨l, a, l', b, hm, hf, rfl⟩
theorem Rd.pure_some {α : Type} {a : α} {h : Nat → Option Ob} {r : List Nat × α} (e : Rd.pure a h = some r) : r = ([], a) := by cases e; rfl
theorem Rd.fail_some {α : Type} {g : Nat → Option Ob} {r : List Nat × α} (e : (Rd.fail : Rd α) g = some r) : False := by cases e
theorem Rd.of_some {α : Type} {o : Option α} {h : Nat → Option Ob} {r : List Nat × α} (e : Rd.of o h = some r) : ∃ a, o = some a ∧ r = ([], a) := by
  cases o with
  | none => cases e
  | some a => cases e; exact ⟨a, rfl, rfl⟩
theorem Rd.look_some {o : Nat} {h : Nat → Option Ob} {r : List Nat × Ob} (e : Rd.look o h = some r) : ∃ x, h o = some x ∧ r = ([o], x) := by
  unfold Rd.look at e
  split at e
  · cases e
  · rename_i x hx; cases e; exact ⟨x, hx, rfl⟩
theorem cast_some {a b : Ty} {x : a.den} {y : b.den} (e : a.cast b x = some y) : ∃ h : a = b, h ▸ x = y := by
  unfold Ty.cast at e
  split at e
  · rename_i h; cases e; exact ⟨h, rfl⟩
  · cases e
theorem castSl {a b : Ty} {x : a.sl.den} {y : b.sl.den} (e : a.sl.cast b.sl x = some y) : ∃ h : a = b, HEq x y := by
  obtain ⟨h, e⟩ := cast_some e
  cases h
  cases e
  exact ⟨rfl, HEq.rfl⟩
theorem tagOk_some {o : Nat × Nat} {h : Nat → Option Ob} {r : List Nat × Unit} (e : tagOk o h = some r) : (∃ e xs l d, h o.1 = some (.arr e xs l d o.2)) ∧ r.1 = [o.1] := by
  obtain ⟨l, x, l', b, h1, h2, rfl⟩ := Rd.bind_some e
  obtain ⟨y, hy, hr⟩ := Rd.look_some h1
  cases hr
  cases x with
  | box _ => cases h2
  | arr e' xs lv d v =>
    simp only [] at h2
    split at h2
    · rename_i hv; subst hv; cases h2; exact ⟨⟨e', xs, lv, d, hy⟩, rfl⟩
    · cases h2

/-- The cells that belong to nobody, or to one of some objects. -/
def zoneIds (own : Nat → Nat → Option (Nat × Bool)) (l : List Nat) : Zone := fun b k => own b k = none ∨ ∃ o m, o ∈ l ∧ own b k = some (o, m)
theorem zoneIds.mono {own : Nat → Nat → Option (Nat × Bool)} {l l' : List Nat} (h : ∀ o ∈ l, o ∈ l') (b k : Nat) : zoneIds own l b k → zoneIds own l' b k :=
  fun hz => hz.imp id fun ⟨o, m, ho, hw⟩ => ⟨o, m, h o ho, hw⟩
theorem zoneOf_ids {own : Nat → Nat → Option (Nat × Bool)} {t : Tag} {l : List Nat} (h : ∀ q, t = some q → q.1.1 ∈ l) (b k : Nat) : zoneOf own t b k → zoneIds own l b k :=
  fun hz => hz.imp id fun ⟨q, hq, hw⟩ => ⟨q.1.1, false, h q hq, hw⟩
theorem Rep.zone {Z Z' : Zone} {W : World} {t : Ty} {x : t.den} {vs : List Value} (h : Rep Z W t x vs) (hz : ∀ b k, Z b k → Z' b k) : Rep Z' W t x vs :=
  Rep.mono (fun b k _ h hv => ⟨hz b k h, hv⟩) h

theorem row_lt {i n cap j m : Nat} (hi : i < n) (hn : n ≤ cap) (hj : j < m) : i * m + j < cap * m := by
  have : i + 1 ≤ cap := by omega
  have := Nat.mul_le_mul_right m this
  rw [Nat.add_mul] at this
  omega

/-- The rows of an object as data. -/
theorem ObRel.rows {X : Cx} {o : Nat} {e : Ty} {xs : List e.den} {l d : Bool} {ver : Nat} (h : ObRel X o (.arr e xs l d ver)) :
    ∃ a cap, X.loc o = .arr a cap ∧ xs.length ≤ cap ∧ ∀ i (hi : i < xs.length), ∃ b k cs, a = some ⟨b, k, none⟩ ∧ Rep (zoneIds X.own [o]) X.W e xs[i] cs ∧ At (zoneIds X.own [o]) X.W b (k + i * e.cells) cs := by
  obtain ⟨a, cap, h1, h2, h3⟩ := h
  refine ⟨a, cap, h1, h2, fun i hi => ?_⟩
  rcases h3 with h3 | ⟨b, k, ha, hm, hr⟩
  · omega
  have hmain : l = true → ∀ j, j < e.cells → zoneIds X.own [o] b (k + i * e.cells + j) := fun hl j hj => by
    have := (hm hl).1 _ (row_lt hi h2 hj)
    rw [← Nat.add_assoc] at this
    exact Or.inr ⟨o, true, by simp, this⟩
  cases l with
  | false =>
    obtain ⟨cs, hr1, hr2⟩ := hr i hi
    exact ⟨b, k, cs, ha, hr1.zone (zoneOf_ids (by simp)), hr2.mono fun b k v hz hv => ⟨zoneOf_ids (by simp) b k hz, hv⟩⟩
  | true =>
    cases d with
    | true =>
      obtain ⟨ZR, r1, _, r3⟩ := hr
      obtain ⟨cs, ho, hcs⟩ := r3 i hi
      refine ⟨b, k, cs, ha, ho.rep.zone fun b' k' hz => Or.inr ⟨o, false, by simp, r1 i b' k' hz⟩, fun j v hj => ⟨hmain rfl j ?_, hcs j v hj⟩⟩
      have := ho.len
      have := (List.getElem?_eq_some_iff.1 hj).1
      omega
    | false =>
      obtain ⟨cs, hr1, hcs⟩ := hr i hi
      refine ⟨b, k, cs, ha, hr1.zone (zoneOf_ids (by simp)), fun j v hj => ⟨hmain rfl j ?_, hcs j v hj⟩⟩
      have := hr1.len
      have := (List.getElem?_eq_some_iff.1 hj).1
      omega

theorem readSl_rep {X : Cx} (OB : ∀ o x, X.ob o = some x → ObRel X o x) {e : Ty} {f : FV} {v : Value} {l : List Nat} {xs : List e.den}
    (hr : readSl e f X.ob = some (l, xs)) (hv : VRel X f v) : Rep (zoneIds X.own l) X.W (.sl e) xs [v] := by
  cases f with
  | nsl =>
    cases hr
    obtain ⟨a, rfl⟩ := hv
    exact ⟨a, 0, rfl, Nat.le_refl _, fun i hi => absurd hi (Nat.not_lt_zero i)⟩
  | isl t e' ys =>
    cases t with
    | none =>
      obtain ⟨z, hz, hh⟩ := Rd.of_some hr
      cases hh
      obtain ⟨rfl, hq⟩ := castSl hz
      cases hq
      exact (hv.2.1 trivial).zone (zoneOf_ids (by simp))
    | some q =>
      obtain ⟨l1, _, l2, z, h1, h2, he⟩ := Rd.bind_some hr
      cases he
      obtain ⟨hl, hl1⟩ := tagOk_some h1
      obtain ⟨z', hz, hh⟩ := Rd.of_some h2
      cases hh
      obtain ⟨rfl, hq⟩ := castSl hz
      cases hq
      refine (hv.2.1 hl).zone (zoneOf_ids fun q' hq' => ?_)
      cases hq'
      simp only [] at hl1
      simp [hl1]
  | fsl o =>
    obtain ⟨l1, x, l2, z, h1, h2, he⟩ := Rd.bind_some hr
    cases he
    obtain ⟨y, hy, hh⟩ := Rd.look_some h1
    cases hh
    cases x with
    | box _ => cases h2
    | arr e' ys lv d ver =>
      obtain ⟨z', hz, hh⟩ := Rd.of_some h2
      cases hh
      obtain ⟨rfl, hq⟩ := castSl hz
      cases hq
      obtain ⟨a, cap, hl, rfl⟩ := hv.2 _ _ _ _ _ hy
      obtain ⟨a', cap', hl', hc, hrow⟩ := (OB _ _ hy).rows
      rw [hl] at hl'
      cases hl'
      exact ⟨a, cap, rfl, hc, fun i hi => by simpa using hrow i hi⟩
  | osl o lo n =>
    obtain ⟨l1, x, l2, z, h1, h2, he⟩ := Rd.bind_some hr
    cases he
    obtain ⟨y, hy, hh⟩ := Rd.look_some h1
    cases hh
    cases x with
    | box _ => cases h2
    | arr e' ys lv d ver =>
      obtain ⟨z', hz, hh⟩ := Rd.of_some h2
      cases hh
      obtain ⟨rfl, hq⟩ := castSl hz
      cases hq
      obtain ⟨a, cap, hl, hlo, a', rfl, hsh⟩ := hv.2 _ _ _ _ _ hy
      obtain ⟨a2, cap2, hl', hc, hrow⟩ := (OB _ _ hy).rows
      rw [hl] at hl'
      cases hl'
      have hlen : (lsub ys lo n).length = n := by unfold lsub; simp; omega
      refine ⟨a', cap - lo, by rw [hlen], by omega, fun i hi => ?_⟩
      obtain ⟨b, k, cs, ha, hr1, hat⟩ := hrow (lo + i) (by omega)
      obtain ⟨b2, k2, ha2, ha'⟩ := hsh (by omega)
      rw [ha] at ha2
      cases ha2
      refine ⟨b, k + lo * e'.cells, cs, ha', ?_, ?_⟩
      · have : (lsub ys lo n)[i] = ys[lo + i] := by simp [lsub]
        rw [this]; simpa using hr1
      · have : k + lo * e'.cells + i * e'.cells = k + (lo + i) * e'.cells := by rw [Nat.add_mul]; omega
        rw [this]; simpa using hat
  | bad => cases hr
  | int _ _ => cases hr
  | bool _ => cases hr
  | str _ => cases hr
  | ptr _ _ => cases hr
  | ept _ _ _ => cases hr
  | vpt _ _ => cases hr
  | clo _ _ _ => cases hr
  | nilp => cases hr
  | agg _ => cases hr
  | tup _ => cases hr
  | nilb _ => cases hr

theorem LRel.len {X : Cx} : ∀ {l : List FV} {vs : List Value}, LRel X l vs → vs.length = l.length
  | [], _, h => by cases h; rfl
  | f :: l, vs, h => by obtain ⟨v, us, rfl, _, h⟩ := h; simp [LRel.len h]

theorem implode_rep {X : Cx} (OB : ∀ o x, X.ob o = some x → ObRel X o x) : ∀ {t : Ty} {cs : List FV} {us : List Value} {l : List Nat} {x : t.den} {rest : List FV},
    implode t cs X.ob = some (l, (x, rest)) → LRel X cs us → ∃ u1 u2, us = u1 ++ u2 ∧ Rep (zoneIds X.own l) X.W t x u1 ∧ LRel X rest u2 := by
  intro t
  induction t with
  | int k =>
    intro cs us l x rest h hr
    match cs, h with
    | c :: cs, h =>
      obtain ⟨v, us', rfl, hv, hr⟩ := hr
      cases c with
      | int k' n =>
        simp only [implode] at h
        split at h
        · rename_i hk; subst hk; cases h; exact ⟨[v], us', rfl, by cases hv; rfl, hr⟩
        · cases h
      | _ => cases h
    | [], h => cases h
  | bool =>
    intro cs us l x rest h hr
    match cs, h with
    | c :: cs, h =>
      obtain ⟨v, us', rfl, hv, hr⟩ := hr
      cases c with
      | bool n => cases h; exact ⟨[v], us', rfl, by cases hv; rfl, hr⟩
      | _ => cases h
    | [], h => cases h
  | str =>
    intro cs us l x rest h hr
    match cs, h with
    | c :: cs, h =>
      obtain ⟨v, us', rfl, hv, hr⟩ := hr
      cases c with
      | str n => cases h; exact ⟨[v], us', rfl, by cases hv; rfl, hr⟩
      | _ => cases h
    | [], h => cases h
  | sl e =>
    intro cs us l x rest h hr
    match cs, h with
    | c :: cs, h =>
      obtain ⟨v, us', rfl, hv, hr⟩ := hr
      obtain ⟨l1, xs, l2, z, h1, h2, he⟩ := Rd.bind_some h
      cases h2
      simp only [List.append_nil, Prod.mk.injEq] at he
      obtain ⟨rfl, rfl, rfl⟩ := he
      exact ⟨[v], us', rfl, readSl_rep OB h1 hv, hr⟩
    | [], h => cases h
  | unit =>
    intro cs us l x rest h hr
    cases h
    exact ⟨[], us, rfl, rfl, hr⟩
  | pair a b iha ihb =>
    intro cs us l x rest h hr
    simp only [implode] at h
    obtain ⟨l1, xa, l2, z, h1, h2, he⟩ := Rd.bind_some h
    obtain ⟨l3, xb, l4, z', h3, h4, he'⟩ := Rd.bind_some h2
    cases h4
    cases he'
    simp only [List.append_nil, Prod.mk.injEq] at he
    obtain ⟨rfl, rfl, rfl⟩ := he
    obtain ⟨u1, u2, rfl, r1, r2⟩ := iha (x := xa.1) (rest := xa.2) h1 hr
    obtain ⟨u3, u4, rfl, r3, r4⟩ := ihb (x := xb.1) (rest := xb.2) h3 r2
    refine ⟨u1 ++ u3, u4, by simp, ⟨u1, u3, rfl, ?_, ?_⟩, r4⟩
    · exact r1.zone (zoneIds.mono (by simp +contextual))
    · exact r3.zone (zoneIds.mono (by simp +contextual))
  | st t ih =>
    intro cs us l x rest h hr
    exact ih (x := x) h hr
  | ref =>
    intro cs us l x rest h hr
    cases cs <;> cases h

theorem cells_rel {X : Cx} {f : FV} {v : Value} {cs : List FV} (hc : f.cells? = some cs) (h : VRel X f v) : LRel X cs v.cells.toList := by
  cases f with
  | agg l => cases hc; obtain ⟨us, rfl, h⟩ := h; simpa [Value.cells] using h
  | bad => cases hc
  | tup _ => cases hc
  | nilb _ => cases hc
  | int k n => cases hc; cases h; exact ⟨_, _, rfl, rfl, rfl⟩
  | bool b => cases hc; cases h; exact ⟨_, _, rfl, rfl, rfl⟩
  | str s => cases hc; cases h; exact ⟨_, _, rfl, rfl, rfl⟩
  | nsl => cases hc; obtain ⟨a, rfl⟩ := h; exact ⟨_, _, rfl, ⟨a, rfl⟩, rfl⟩
  | nilp => cases hc; rcases h with rfl | rfl <;> exact ⟨_, _, rfl, by simp [VRel], rfl⟩
  | clo g a b => cases hc; obtain ⟨fs, cs, rfl, h⟩ := h; exact ⟨_, _, rfl, ⟨fs, cs, rfl, h⟩, rfl⟩
  | vpt t l => cases hc; obtain ⟨b, k, rfl, h⟩ := h; exact ⟨_, _, rfl, ⟨b, k, rfl, h⟩, rfl⟩
  | isl t e xs => cases hc; obtain ⟨⟨a, c, rfl⟩, h⟩ := h; exact ⟨_, _, rfl, ⟨⟨a, c, rfl⟩, h⟩, rfl⟩
  | fsl o => cases hc; obtain ⟨⟨a, n, c, rfl⟩, h⟩ := h; exact ⟨_, _, rfl, ⟨⟨a, n, c, rfl⟩, h⟩, rfl⟩
  | osl o lo n => cases hc; obtain ⟨⟨a, c, rfl⟩, h⟩ := h; exact ⟨_, _, rfl, ⟨⟨a, c, rfl⟩, h⟩, rfl⟩
  | ptr o off => cases hc; obtain ⟨⟨a, rfl⟩, h⟩ := h; exact ⟨_, _, rfl, ⟨⟨a, rfl⟩, h⟩, rfl⟩
  | ept o i off => cases hc; obtain ⟨⟨a, rfl⟩, h⟩ := h; exact ⟨_, _, rfl, ⟨⟨a, rfl⟩, h⟩, rfl⟩
end Go.Evr

namespace Go.Evr

theorem lget_eq {α : Type} {l : List α} {i : Nat} {d : α} (h : i < l.length) : lget l i d = l[i] := by simp [lget, h]

theorem readVal_rep {X : Cx} (OB : ∀ o x, X.ob o = some x → ObRel X o x) {t : Ty} {f : FV} {v : Value} {l : List Nat} {x : t.den}
    (h : readVal t f X.ob = some (l, x)) (hv : VRel X f v) : ∃ u1 u2, v.cells.toList = u1 ++ u2 ∧ Rep (zoneIds X.own l) X.W t x u1 := by
  unfold readVal at h
  cases hc : f.cells? with
  | none => rw [hc] at h; cases h
  | some cs =>
    rw [hc] at h
    obtain ⟨l1, z, l2, z', h1, h2, he⟩ := Rd.bind_some h
    cases h2
    simp only [List.append_nil, Prod.mk.injEq] at he
    obtain ⟨rfl, rfl⟩ := he
    obtain ⟨u1, u2, e, r, _⟩ := implode_rep OB (x := z.1) (rest := z.2) h1 (cells_rel hc hv)
    exact ⟨u1, u2, e, r⟩

theorem LRel.append {X : Cx} : ∀ {a b : List FV} {u v : List Value}, LRel X a u → LRel X b v → LRel X (a ++ b) (u ++ v)
  | [], _, _, _, h, k => by cases h; exact k
  | f :: a, b, _, _, h, k => by
    obtain ⟨x, us, rfl, h1, h2⟩ := h
    exact ⟨x, us ++ _, rfl, h1, LRel.append h2 k⟩
theorem LRel.drop {X : Cx} : ∀ (n : Nat) {a : List FV} {u : List Value}, LRel X a u → LRel X (a.drop n) (u.drop n)
  | 0, _, _, h => by simpa using h
  | n + 1, [], _, h => by cases h; exact rfl
  | n + 1, f :: a, _, h => by
    obtain ⟨x, us, rfl, _, h2⟩ := h
    simpa using LRel.drop n h2
theorem LRel.take {X : Cx} : ∀ (n : Nat) {a : List FV} {u : List Value}, LRel X a u → LRel X (a.take n) (u.take n)
  | 0, _, _, _ => rfl
  | n + 1, [], _, h => by cases h; exact rfl
  | n + 1, f :: a, _, h => by
    obtain ⟨x, us, rfl, h1, h2⟩ := h
    exact ⟨x, us.take n, rfl, h1, LRel.take n h2⟩
theorem LRel.get {X : Cx} : ∀ {a : List FV} {u : List Value} (i : Nat), LRel X a u → i < a.length → ∃ v, u[i]? = some v ∧ VRel X (a.getD i .bad) v
  | [], _, _, _, h => by cases h
  | f :: a, _, 0, h, _ => by obtain ⟨x, us, rfl, h1, _⟩ := h; exact ⟨x, rfl, h1⟩
  | f :: a, _, i + 1, h, hi => by
    obtain ⟨x, us, rfl, _, h2⟩ := h
    obtain ⟨v, h3, h4⟩ := LRel.get i h2 (by simpa using hi)
    exact ⟨v, by simpa using h3, by simpa using h4⟩
theorem LRel.set {X : Cx} : ∀ {a : List FV} {u : List Value} (i : Nat) {f : FV} {v : Value}, LRel X a u → VRel X f v → LRel X (setL .bad a i f) (u.set i v)
  | [], _, _, _, _, h, _ => by cases h; exact rfl
  | _ :: a, _, 0, _, _, h, k => by obtain ⟨x, us, rfl, _, h2⟩ := h; exact ⟨_, us, rfl, k, h2⟩
  | g :: a, _, i + 1, _, _, h, k => by
    obtain ⟨x, us, rfl, h1, h2⟩ := h
    exact ⟨x, _, rfl, h1, LRel.set i h2 k⟩
theorem okL.set {D : Nat → Nat → Prop} : ∀ {a : List FV} (i : Nat) {f : FV}, okL D a → f.ok D → okL D (setL .bad a i f)
  | [], _, _, _, _ => trivial
  | _ :: _, 0, _, h, k => ⟨k, h.2⟩
  | _ :: _, _ + 1, _, h, k => ⟨h.1, okL.set _ h.2 k⟩
theorem okL.get {D : Nat → Nat → Prop} : ∀ {a : List FV} (i : Nat), okL D a → (a.getD i .bad).ok D
  | [], _, _ => by simp [FV.ok]
  | _ :: _, 0, h => h.1
  | _ :: a, i + 1, h => by simpa using okL.get (a := a) i h.2
theorem okL.append {D : Nat → Nat → Prop} : ∀ {a b : List FV}, okL D a → okL D b → okL D (a ++ b)
  | [], _, _, k => k
  | _ :: _, _, h, k => ⟨h.1, okL.append h.2 k⟩
theorem okL.drop {D : Nat → Nat → Prop} : ∀ (n : Nat) {a : List FV}, okL D a → okL D (a.drop n)
  | 0, _, h => by simpa using h
  | _ + 1, [], _ => trivial
  | n + 1, _ :: a, h => by simpa using okL.drop (a := a) n h.2
theorem okL.take {D : Nat → Nat → Prop} : ∀ (n : Nat) {a : List FV}, okL D a → okL D (a.take n)
  | 0, _, _ => trivial
  | _ + 1, [], _ => trivial
  | n + 1, _ :: _, h => ⟨h.1, okL.take n h.2⟩
theorem cells_ok {D : Nat → Nat → Prop} {f : FV} {cs : List FV} (hc : f.cells? = some cs) (h : f.ok D) : okL D cs := by
  cases f <;> first | cases hc; exact ⟨h, trivial⟩ | (cases hc; exact h) | cases hc

/-- A datum in memory as cells to reckon with. -/
theorem explode_rel {X : Cx} {Z : Zone} {src : Nat → Tag} (hz : ∀ c b k, Z b k → zoneOf X.own (src c) b k) : ∀ {t : Ty} {x : t.den} {vs : List Value} (c : Nat), Rep Z X.W t x vs →
    (∀ j e ys v, cellSl t x j e ys → vs[j]? = some v → PathOk X (src (c + j)) e ys v) → LRel X (explode src t x c) vs
  | .int _, _, _, _, h, _ => by cases h; exact ⟨_, _, rfl, rfl, rfl⟩
  | .bool, _, _, _, h, _ => by cases h; exact ⟨_, _, rfl, rfl, rfl⟩
  | .str, _, _, _, h, _ => by cases h; exact ⟨_, _, rfl, rfl, rfl⟩
  | .sl e, xs, _, c, h, hp => by
    obtain ⟨a, cap, rfl, h2, h3⟩ := h
    refine ⟨_, _, rfl, ⟨⟨a, cap, rfl⟩, fun _ => ?_, ?_⟩, rfl⟩
    · exact Rep.zone (t := .sl e) ⟨a, cap, rfl, h2, h3⟩ (hz c)
    · exact hp 0 e xs _ ⟨rfl, rfl, HEq.rfl⟩ rfl
  | .unit, _, _, _, h, _ => by cases h; exact rfl
  | .pair a b, x, _, c, h, hp => by
    obtain ⟨v1, v2, rfl, h1, h2⟩ := h
    have hl := h1.len
    refine LRel.append (explode_rel hz (t := a) c h1 fun j e ys v hj hv => ?_) (explode_rel hz (t := b) (c + a.cells) h2 fun j e ys v hj hv => ?_)
    · have hjl := (List.getElem?_eq_some_iff.1 hv).1
      exact hp j e ys v (by simp only [cellSl]; rw [if_pos (by omega)]; exact hj) (by rw [List.getElem?_append_left hjl]; exact hv)
    · have := hp (a.cells + j) e ys v (by simp only [cellSl]; rw [if_neg (by omega), Nat.add_sub_cancel_left]; exact hj)
        (by rw [List.getElem?_append_right (by omega), hl, Nat.add_sub_cancel_left]; exact hv)
      rw [Nat.add_assoc]
      exact this
  | .st t, x, _, c, h, hp => explode_rel hz (t := t) c h hp
  | .ref, _, vs, _, h, _ => by
    match vs, h with
    | [v], _ => exact ⟨v, [], rfl, trivial, rfl⟩

theorem explode_len {src : Nat → Tag} : ∀ {t : Ty} {x : t.den} {c : Nat}, (explode src t x c).length = t.cells
  | .int _, _, _ => rfl
  | .bool, _, _ => rfl
  | .str, _, _ => rfl
  | .sl _, _, _ => rfl
  | .unit, _, _ => rfl
  | .pair a b, x, c => by simp only [explode, List.length_append, Ty.cells]; rw [explode_len, explode_len]
  | .st t, x, c => explode_len (t := t)
  | .ref, _, _ => rfl

theorem explode_ok {D : Nat → Nat → Prop} {src : Nat → Tag} (hs : ∀ c q, src c = some q → D q.1.1 q.1.2) : ∀ {t : Ty} {x : t.den} {c : Nat}, okL D (explode src t x c)
  | .int _, _, _ => ⟨trivial, trivial⟩
  | .bool, _, _ => ⟨trivial, trivial⟩
  | .str, _, _ => ⟨trivial, trivial⟩
  | .sl _, _, c => ⟨fun q hq => hs c q hq, trivial⟩
  | .unit, _, _ => trivial
  | .pair a b, x, c => okL.append (explode_ok hs) (explode_ok hs)
  | .st t, x, c => explode_ok hs (t := t)
  | .ref, _, _ => ⟨trivial, trivial⟩

theorem Rep.flat {Z Z' : Zone} {W : World} : ∀ {t : Ty} {x : t.den} {vs : List Value}, t.deep = false → Rep Z W t x vs → Rep Z' W t x vs
  | .int _, _, _, _, h => h
  | .bool, _, _, _, h => h
  | .str, _, _, _, h => h
  | .sl _, _, _, hd, _ => by cases hd
  | .unit, _, _, _, h => h
  | .pair a b, x, _, hd, h => by
    simp only [Ty.deep, Bool.or_eq_false_iff] at hd
    obtain ⟨v1, v2, rfl, h1, h2⟩ := h
    exact ⟨v1, v2, rfl, Rep.flat hd.1 h1, Rep.flat hd.2 h2⟩
  | .st t, x, _, hd, h => Rep.flat (t := t) hd h
  | .ref, _, _, _, h => h

theorem cellSl_flat : ∀ {t : Ty} {x : t.den} {c : Nat} {e : Ty} {ys : List e.den}, t.deep = false → cellSl t x c e ys → False
  | .sl _, _, _, _, _, hd, _ => by cases hd
  | .pair a b, x, c, e, ys, hd, h => by
    simp only [Ty.deep, Bool.or_eq_false_iff] at hd
    simp only [cellSl] at h
    split at h
    · exact cellSl_flat hd.1 h
    · exact cellSl_flat hd.2 h
  | .st t, x, c, e, ys, hd, h => cellSl_flat (t := t) hd h

theorem zoneIds_sub {own : Nat → Nat → Option (Nat × Bool)} {t : Tag} {l : List Nat} (h : ∀ q, t = some q → q.1.1 ∈ l) {W W' : World} {b k : Nat} {us : List Value} (ha : At (zoneOf own t) W b k us) (hw : W' = W) : At (zoneIds own l) W' b k us := by
  subst hw
  exact ha.mono fun b k v hz hv => ⟨zoneOf_ids h b k hz, hv⟩

/-- Cells at an address. -/
theorem cellsAt_rel {X : Cx} (OB : ∀ o x, X.ob o = some x → ObRel X o x) {n : Nat} {f : FV} {v : Value} {l : List Nat} {cs : List FV}
    (h : cellsAt n f X.ob = some (l, cs)) (hn : cs.length = n) (hv : VRel X f v) :
    ∃ b k us, v = .pointer (some ⟨b, k, none⟩) ∧ LRel X cs us ∧ At (zoneIds X.own l) X.W b k us := by
  cases f with
  | ptr o off =>
    obtain ⟨l1, x, l2, z, h1, h2, he⟩ := Rd.bind_some h
    cases he
    obtain ⟨y, hy, hh⟩ := Rd.look_some h1
    cases hh
    cases x with
    | arr _ _ _ _ _ => cases h2
    | box bs =>
      cases h2
      obtain ⟨b, k, hl, rfl⟩ := hv.2 _ hy
      obtain ⟨b', k', us, hl', hr, hc⟩ := OB _ _ hy
      rw [hl] at hl'
      cases hl'
      refine ⟨b, k + off, (us.drop off).take n, rfl, (hr.drop off).take n, fun j u hj => ?_⟩
      have hj2 : us[off + j]? = some u := by
        have : ((us.drop off).take n)[j]? = some u := hj
        rw [List.getElem?_take] at this
        split at this
        · rwa [List.getElem?_drop] at this
        · cases this
      obtain ⟨h3, h4, _⟩ := hc _ _ hj2
      rw [← Nat.add_assoc] at h3 h4
      exact ⟨Or.inr ⟨o, true, by simp, h3⟩, h4⟩
  | ept o i off =>
    obtain ⟨l1, x, l2, z, h1, h2, he⟩ := Rd.bind_some h
    cases he
    obtain ⟨y, hy, hh⟩ := Rd.look_some h1
    cases hh
    cases x with
    | box _ => cases h2
    | arr e xs lv d ver =>
      cases h2
      obtain ⟨b, k, cap, hl, hi, rfl⟩ := hv.2 _ _ _ _ _ hy
      have hob := OB _ _ hy
      obtain ⟨a', cap', hl', hc, hrows⟩ := hob.rows
      rw [hl] at hl'
      cases hl'
      obtain ⟨b2, k2, us, ha, hrep, hat⟩ := hrows i hi
      cases ha
      have hget : lget xs i e.zero = xs[i] := lget_eq hi
      have hrel : LRel X (explode (fun c => if d && e.deep then some ((o, ver), some (i, c)) else none) e (lget xs i e.zero) 0) us := by
        rw [hget]
        cases hed : e.deep with
        | false =>
          simp only [Bool.and_false]
          exact explode_rel (Z := zoneOf X.own none) (fun c b k h => h) 0 (Rep.flat hed hrep) fun j e' ys v hj _ => (cellSl_flat hed hj).elim
        | true =>
          simp only [Bool.and_true]
          cases d with
          | false =>
            -- the arrays of the row belong to nobody
            obtain ⟨a3, cap3, hl3, _, h3⟩ := hob
            rw [hl] at hl3
            cases hl3
            rcases h3 with h3 | ⟨b3, k3, ha3, _, hr3⟩
            · omega
            cases ha3
            have hrep' : ∃ us', Rep (zoneOf X.own none) X.W e xs[i] us' ∧ us' = us := by
              cases lv with
              | false =>
                obtain ⟨us', q1, q2⟩ := hr3 i hi
                refine ⟨us', q1, ?_⟩
                apply List.ext_getElem?
                intro j
                by_cases hj : j < e.cells
                · have hl1 := q1.len; have hl2 := hrep.len
                  have e1 : us'[j]? = some us'[j] := List.getElem?_eq_getElem (by omega)
                  have e2 : us[j]? = some us[j] := List.getElem?_eq_getElem (by omega)
                  have w1 := (q2 j _ e1).2
                  have w2 := (hat j _ e2).2
                  rw [w1] at w2
                  rw [e1, e2]; exact w2
                · have hl1 := q1.len; have hl2 := hrep.len
                  rw [List.getElem?_eq_none (by omega), List.getElem?_eq_none (by omega)]
              | true =>
                obtain ⟨us', q1, q2⟩ := hr3 i hi
                refine ⟨us', q1, ?_⟩
                apply List.ext_getElem?
                intro j
                by_cases hj : j < e.cells
                · have hl1 := q1.len; have hl2 := hrep.len
                  have e1 : us'[j]? = some us'[j] := List.getElem?_eq_getElem (by omega)
                  have e2 : us[j]? = some us[j] := List.getElem?_eq_getElem (by omega)
                  have w1 := q2 j _ e1
                  have w2 := (hat j _ e2).2
                  rw [w1] at w2
                  rw [e1, e2]; exact w2
                · have hl1 := q1.len; have hl2 := hrep.len
                  rw [List.getElem?_eq_none (by omega), List.getElem?_eq_none (by omega)]
            obtain ⟨us', q1, rfl⟩ := hrep'
            exact explode_rel (Z := zoneOf X.own none) (fun c b k h => h) 0 q1 fun j e' ys v _ _ => trivial
          | true =>
            obtain ⟨a3, cap3, hl3, _, h3⟩ := hob
            rw [hl] at hl3
            cases hl3
            rcases h3 with h3 | ⟨b3, k3, ha3, _, hr3⟩
            · omega
            cases ha3
            have hrep' : ∃ us', Rep (zoneOf X.own (some ((o, ver), none))) X.W e xs[i] us' ∧ us' = us := by
              cases lv with
              | false =>
                obtain ⟨us', q1, q2⟩ := hr3 i hi
                refine ⟨us', q1.zone fun b k h => h.imp id fun ⟨q, hq, _⟩ => (by cases hq), ?_⟩
                apply List.ext_getElem?
                intro j
                by_cases hj : j < e.cells
                · have hl1 := q1.len; have hl2 := hrep.len
                  have e1 : us'[j]? = some us'[j] := List.getElem?_eq_getElem (by omega)
                  have e2 : us[j]? = some us[j] := List.getElem?_eq_getElem (by omega)
                  have w1 := (q2 j _ e1).2
                  have w2 := (hat j _ e2).2
                  rw [w1] at w2
                  rw [e1, e2]; exact w2
                · have hl1 := q1.len; have hl2 := hrep.len
                  rw [List.getElem?_eq_none (by omega), List.getElem?_eq_none (by omega)]
              | true =>
                obtain ⟨ZR, r1, _, r3⟩ := hr3
                obtain ⟨us', q0, q2⟩ := r3 i hi
                have q1 := q0.rep
                refine ⟨us', q1.zone fun b k h => Or.inr ⟨_, rfl, r1 i b k h⟩, ?_⟩
                apply List.ext_getElem?
                intro j
                by_cases hj : j < e.cells
                · have hl1 := q1.len; have hl2 := hrep.len
                  have e1 : us'[j]? = some us'[j] := List.getElem?_eq_getElem (by omega)
                  have e2 : us[j]? = some us[j] := List.getElem?_eq_getElem (by omega)
                  have w1 := q2 j _ e1
                  have w2 := (hat j _ e2).2
                  rw [w1] at w2
                  rw [e1, e2]; exact w2
                · have hl1 := q1.len; have hl2 := hrep.len
                  rw [List.getElem?_eq_none (by omega), List.getElem?_eq_none (by omega)]
            obtain ⟨us', q1, rfl⟩ := hrep'
            refine explode_rel (src := fun c => some ((o, ver), some (i, c))) (Z := zoneOf X.own (some ((o, ver), none))) (fun c b k h => h.imp id fun ⟨q, hq, hw⟩ => by cases hq; exact ⟨_, rfl, hw⟩) 0 q1 fun j e' ys v hj hv => ?_
            intro e2 us2 l2 d2 hob2
            rw [hy] at hob2
            cases hob2
            refine ⟨b, k, cap, hl, hi, by simpa using hj, ?_⟩
            have := (hat j v hv).2
            simpa using this
      refine ⟨b, k + i * e.cells + off, (us.drop off).take n, rfl, (hrel.drop off).take n, fun j u hj => ?_⟩
      have hj2 : us[off + j]? = some u := by
        rw [List.getElem?_take] at hj
        split at hj
        · rwa [List.getElem?_drop] at hj
        · cases hj
      obtain ⟨h3, h4⟩ := hat _ _ hj2
      rw [← Nat.add_assoc] at h3 h4
      exact ⟨by simpa using h3, h4⟩
  | vpt t bs =>
    cases t with
    | none =>
      cases h
      obtain ⟨b, k, rfl, h1⟩ := hv
      obtain ⟨us, h2, h3⟩ := h1 trivial
      refine ⟨b, k, us.take n, rfl, h3.take n, fun j u hj => ?_⟩
      rw [List.getElem?_take] at hj
      split at hj
      · obtain ⟨q1, q2⟩ := h2 j u hj
        exact ⟨zoneOf_ids (by simp) _ _ q1, q2⟩
      · cases hj
    | some q =>
      obtain ⟨q, qp⟩ := q
      replace h : ((tagOk q).bind fun _ => Rd.pure (bs.take n)) X.ob = some (l, cs) := h
      obtain ⟨l1, x, l2, z, h1, h2, he⟩ := Rd.bind_some h
      cases h2
      obtain ⟨hlive, hl1⟩ := tagOk_some h1
      cases he
      obtain ⟨b, k, rfl, h1⟩ := hv
      obtain ⟨us, h2, h3⟩ := h1 hlive
      refine ⟨b, k, us.take n, rfl, h3.take n, fun j u hj => ?_⟩
      rw [List.getElem?_take] at hj
      split at hj
      · obtain ⟨q1, q2⟩ := h2 j u hj
        refine ⟨zoneOf_ids (fun q' hq' => ?_) _ _ q1, q2⟩
        cases hq'
        simp only [] at hl1
        simp [hl1]
      · cases hj
  | bad => cases h
  | int _ _ => cases h
  | bool _ => cases h
  | str _ => cases h
  | nsl => cases h
  | isl _ _ _ => cases h
  | fsl _ => cases h
  | osl _ _ _ => cases h
  | clo _ _ _ => cases h
  | nilp => cases h
  | agg _ => cases h
  | tup _ => cases h
  | nilb _ => cases h
end Go.Evr

namespace Go.Evr

theorem ob_put (ts : List FV) : ∀ (l : List (Option Ob)) (n : Nat) (v : Option Ob) (k : Nat), ({ tmps := ts, objs := putOb l n v } : St).ob k = if k = n then v else ({ tmps := ts, objs := l } : St).ob k
  | [], 0, v, 0 => by simp [putOb, St.ob]
  | [], 0, v, k + 1 => by simp [putOb, St.ob]
  | [], n + 1, v, 0 => by simp [putOb, St.ob]
  | [], n + 1, v, k + 1 => by
    have := ob_put ts [] n v k
    simp only [St.ob, putOb, List.getElem?_cons_succ, List.getElem?_nil] at this ⊢
    rw [this]
    by_cases h : k = n <;> simp [h]
  | a :: l, 0, v, 0 => by simp [putOb, St.ob]
  | a :: l, 0, v, k + 1 => by simp [putOb, St.ob]
  | a :: l, n + 1, v, 0 => by simp [putOb, St.ob]
  | a :: l, n + 1, v, k + 1 => by
    have := ob_put ts l n v k
    simp only [St.ob, putOb, List.getElem?_cons_succ] at this ⊢
    rw [this]
    by_cases h : k = n <;> simp [h]

theorem putOb_len : ∀ (l : List (Option Ob)) (n : Nat) (v : Option Ob), l.length ≤ (putOb l n v).length ∧ n < (putOb l n v).length
  | [], 0, _ => by simp [putOb]
  | [], n + 1, v => by have := putOb_len [] n v; simp [putOb]; omega
  | _ :: l, 0, _ => by simp [putOb]
  | _ :: l, n + 1, v => by have := putOb_len l n v; simp [putOb]; omega

def St.puts (S : St) (p : Puts) : St := { S with objs := p.foldl (fun l p => putOb l p.1 p.2) S.objs }
theorem puts_nil (S : St) : S.puts [] = S := rfl
theorem puts_cons (S : St) (q : Nat × Option Ob) (p : Puts) : S.puts (q :: p) = ({ S with objs := putOb S.objs q.1 q.2 } : St).puts p := rfl
theorem puts_tmps (S : St) (p : Puts) : (S.puts p).tmps = S.tmps := rfl
theorem apply_eq (S : St) (d : Option Nat) (e : Eff) : S.apply d e = (S.puts e.puts).set d e.val := rfl

theorem puts_len : ∀ (p : Puts) (S : St), S.objs.length ≤ (S.puts p).objs.length ∧ ∀ q ∈ p, q.1 < (S.puts p).objs.length
  | [], _ => ⟨Nat.le_refl _, by simp⟩
  | q :: p, S => by
    have h := puts_len p ({ S with objs := putOb S.objs q.1 q.2 } : St)
    have h2 := putOb_len S.objs q.1 q.2
    rw [puts_cons]
    refine ⟨Nat.le_trans h2.1 h.1, fun r hr => ?_⟩
    rcases List.mem_cons.1 hr with rfl | hr
    · exact Nat.lt_of_lt_of_le h2.2 h.1
    · exact h.2 r hr

/-- The object behind puts. -/
def obPuts (f : Nat → Option Ob) : Puts → Nat → Option Ob
  | [], k => f k
  | q :: p, k => obPuts (fun k => if k = q.1 then q.2 else f k) p k
theorem ob_puts : ∀ (p : Puts) (S : St) (k : Nat), (S.puts p).ob k = obPuts S.ob p k
  | [], _, _ => rfl
  | q :: p, S, k => by
    rw [puts_cons, ob_puts p]
    have : (({ S with objs := putOb S.objs q.1 q.2 } : St).ob) = fun k => if k = q.1 then q.2 else S.ob k := by
      funext k
      exact ob_put S.tmps S.objs q.1 q.2 k
    rw [this]
    rfl

/-- What an operation has done: a value, a world, and how the state stands to them. -/
def Done (X : Cx) (D : Nat → Nat → Prop) (E : Env) (S : St) (tm : List Value) (nx : Nat) (e : Eff) (v : Value) (W' : World) : Prop :=
  ∃ X' D', X'.W = W' ∧ Inv X' D' E (S.puts e.puts) tm ∧ VRel X' e.val v ∧ e.val.ok D' ∧ (∀ o n, D o n → D' o n) ∧ nx ≤ e.nx ∧ ∀ o, D' o 0 → D o 0 ∨ (nx ≤ o ∧ o < e.nx)

theorem Done.pure {X : Cx} {D : Nat → Nat → Prop} {E : Env} {S : St} {tm : List Value} {nx : Nat} {f : FV} {v : Value} {g : List Bool}
    (I : Inv X D E S tm) (hv : VRel X f v) (hd : f.ok D) : Done X D E S tm nx ⟨f, [], nx, g⟩ v X.W :=
  ⟨X, D, rfl, I, hv, hd, fun _ _ h => h, Nat.le_refl _, fun _ h => Or.inl h⟩

theorem Frm.trans {R : Zone} {a b c : World} (h : Frm R a b) (k : Frm R b c) : Frm R a c :=
  ⟨k.os.trans h.os, k.tape.trans h.tape, k.output.trans h.output, Nat.le_trans h.size k.size,
    fun n hn hr => (k.block n (Nat.lt_of_lt_of_le hn h.size) hr).trans (h.block n hn hr),
    fun n m v hr hv => k.cell n m v hr (h.cell n m v hr hv),
    fun n m hn hr => (k.frozen n m (Nat.lt_of_lt_of_le hn h.size) hr).trans (h.frozen n m hn hr)⟩

theorem cell_lt {W : World} {b k : Nat} {v : Value} (h : W.cell? ⟨b, k, none⟩ = some v) : b < W.heap.size := by
  unfold World.cell? at h
  by_cases hb : b < W.heap.size
  · exact hb
  · simp [Array.getElem?_eq_none (Nat.le_of_not_lt hb)] at h

theorem size_alloc (W : World) (o : Obj) : (W.alloc o).heap.size = W.heap.size + 1 := by show (W.heap.push o).size = _; simp

theorem Frm.alloc {R : Zone} {W : World} (o : Obj) : Frm R W (W.alloc o) :=
  ⟨rfl, rfl, rfl, by rw [size_alloc]; omega, fun b hb _ => by show (W.heap.push o)[b]? = _; rw [Array.getElem?_push, if_neg (by omega)],
    fun b k v _ hv => by rw [World.cell?_alloc_lt _ _ _ (cell_lt hv)]; exact hv,
    fun b k hb _ => World.frozen?_alloc_past o b k hb⟩

theorem Frm.drew {R : Zone} {W : World} : Frm R W W.drew := ⟨rfl, rfl, rfl, Nat.le_refl _, fun _ _ _ => rfl, fun _ _ _ _ h => h, fun _ _ _ _ => rfl⟩

/-- What is known of an object that stays, in a changed world. -/
theorem ObRel.keeps {X X' : Cx} {D : Nat → Nat → Prop} (K : Keeps X X' D) {o : Nat} {x : Ob} (hl : X'.loc o = X.loc o) (hd : x.ok D)
    (hc : ∀ b k m, X.own b k = some (o, m) → X'.own b k = some (o, m) ∧ X'.W.frozen? ⟨b, k, none⟩ = X.W.frozen? ⟨b, k, none⟩ ∧ ∀ v, X.W.cell? ⟨b, k, none⟩ = some v → X'.W.cell? ⟨b, k, none⟩ = some v)
    (h : ObRel X o x) : ObRel X' o x := by
  have hz : ∀ b k v, zoneOf X.own none b k → X.W.cell? ⟨b, k, none⟩ = some v → zoneOf X'.own none b k ∧ X'.W.cell? ⟨b, k, none⟩ = some v := by
    rintro b k v (hz | ⟨q, hq, _⟩) hv
    · exact ⟨Or.inl (K.zone b k v hz hv).1, (K.zone b k v hz hv).2⟩
    · cases hq
  cases x with
  | box cs =>
    obtain ⟨b, k, us, h1, h2, h3⟩ := h
    refine ⟨b, k, us, hl.trans h1, h2.keeps K hd, fun j v hj => ?_⟩
    obtain ⟨h4, h5, h6⟩ := h3 j v hj
    obtain ⟨q1, q2, q3⟩ := hc _ _ _ h4
    exact ⟨q1, q3 v h5, q2.trans h6⟩
  | arr e xs l d ver =>
    obtain ⟨a, cap, h1, h2, h3⟩ := h
    refine ⟨a, cap, hl.trans h1, h2, h3.imp id ?_⟩
    rintro ⟨b, k, ha, hm, hr⟩
    refine ⟨b, k, ha, fun hlv => ⟨fun j hj => (hc _ _ _ ((hm hlv).1 j hj)).1, fun j hj => ?_⟩, ?_⟩
    · obtain ⟨q1, q2, q3⟩ := hc _ _ _ ((hm hlv).1 j hj)
      obtain ⟨⟨v, hv⟩, hf⟩ := (hm hlv).2 j hj
      exact ⟨⟨v, q3 v hv⟩, q2.trans hf⟩
    · have hmain : l = true → ∀ i, i < xs.length → ∀ j, j < e.cells → ∀ v, X.W.cell? ⟨b, k + i * e.cells + j, none⟩ = some v → X'.W.cell? ⟨b, k + i * e.cells + j, none⟩ = some v := by
        intro hlv i hi j hj v hv
        have := (hm hlv).1 _ (row_lt hi h2 hj)
        rw [← Nat.add_assoc] at this
        exact (hc _ _ _ this).2.2 v hv
      cases l with
      | false =>
        intro i hi
        obtain ⟨cs, r1, r2⟩ := hr i hi
        exact ⟨cs, r1.mono hz, r2.mono hz⟩
      | true =>
        cases d with
        | false =>
          intro i hi
          obtain ⟨cs, r1, r2⟩ := hr i hi
          have hlen := r1.len
          refine ⟨cs, r1.mono hz, fun j v hj => ?_⟩
          have := (List.getElem?_eq_some_iff.1 hj).1
          exact hmain rfl i hi j (by omega) v (r2 j v hj)
        | true =>
          obtain ⟨ZR, r1, r2, r3⟩ := hr
          refine ⟨ZR, fun i b' k' hz' => (hc _ _ _ (r1 i b' k' hz')).1, r2, fun i hi => ?_⟩
          obtain ⟨cs, q1, q2⟩ := r3 i hi
          have hlen := q1.len
          refine ⟨cs, q1.mono (fun _ _ h => h) (fun b' k' v hz' hv => (hc _ _ _ (r1 i b' k' hz')).2.2 v hv) (fun b' k' hz' hf => (hc _ _ _ (r1 i b' k' hz')).2.1.trans hf), fun j v hj => ?_⟩
          have := (List.getElem?_eq_some_iff.1 hj).1
          exact hmain rfl i hi j (by omega) v (q2 j v hj)

/-- A world that has drawn. -/
theorem Inv.drew {X : Cx} {D : Nat → Nat → Prop} {E : Env} {S : St} {tm : List Value} (I : Inv X D E S tm) : Inv { X with W := X.W.drew } D E S tm := by
  have K : Keeps X { X with W := X.W.drew } D :=
    ⟨fun _ _ _ h k => ⟨h, k⟩, fun o e xs l d ver h _ => ⟨xs, l, d, ver, h, rfl, rfl⟩, fun o cs h _ => ⟨cs, h, rfl⟩,
      fun o e xs l d ver h _ => ⟨xs, l, d, h, rfl, fun _ _ _ h k => ⟨Or.inr h, k⟩, fun i hi c e' ys hc => ⟨⟨hi, hc⟩, fun _ _ _ _ _ h => h⟩⟩⟩
  exact ⟨I.ob, I.dom, I.fr.trans Frm.drew, I.pin, I.tmps.keeps K I.okt, fun o x hx => (I.obs o x hx).keeps K rfl (I.oko o x hx) (fun _ _ _ h => ⟨h, rfl, fun _ h => h⟩), I.okt, I.oko, I.dob, I.dcur, I.dlen, I.dknown, I.dver⟩

/-- The cells of a new block. -/
def ownNew (own : Nat → Nat → Option (Nat × Bool)) (B n o : Nat) : Nat → Nat → Option (Nat × Bool) := fun b k => if b = B ∧ k < n then some (o, true) else own b k

/-- A new box. -/
theorem Done.box {X : Cx} {D : Nat → Nat → Prop} {E : Env} {S : St} {tm : List Value} {nx : Nat} {cs : List FV} {us : List Value} {g : List Bool}
    (I : Inv X D E S tm) (hn : ¬ D nx 0) (h : LRel X cs us) (hd : okL D cs) (t : TypeId) :
    Done X D E S tm nx ⟨.ptr nx 0, [(nx, some (.box cs))], nx + 1, g⟩ (.pointer (some ⟨X.W.heap.size, 0, none⟩)) (X.W.alloc (.cells us.toArray t)) := by
  have hne : ∀ o, D o 0 → o ≠ nx := fun o ho e => hn (e ▸ ho)
  have hsnx : S.ob nx = none := by
    cases hx : S.ob nx with
    | none => rfl
    | some x => exact (hn (I.dob _ _ hx)).elim
  let X' : Cx := { own := ownNew X.own X.W.heap.size us.length nx, loc := fun o => if o = nx then .box X.W.heap.size 0 else X.loc o, ob := fun o => if o = nx then some (.box cs) else X.ob o, W := X.W.alloc (.cells us.toArray t) }
  have hown : ∀ b k, b < X.W.heap.size → X'.own b k = X.own b k := fun b k hb => by simp only [X', ownNew]; rw [if_neg (by omega)]
  have hcell : ∀ b k v, X.W.cell? ⟨b, k, none⟩ = some v → X'.W.cell? ⟨b, k, none⟩ = some v := fun b k v hv => by
    show (X.W.alloc _).cell? _ = _
    rw [World.cell?_alloc_lt _ _ _ (cell_lt hv)]; exact hv
  have K : Keeps X X' D := by
    refine ⟨fun b k v hz hv => ⟨by rw [hown b k (cell_lt hv)]; exact hz, hcell b k v hv⟩, fun o e xs l d ver ho hd => ?_, fun o cs ho hd => ?_, fun o e xs l d ver ho hd => ?_⟩
    · simp only [X'] at ho ⊢; rw [if_neg (hne o hd)] at ho; rw [if_neg (hne o hd)]; exact ⟨xs, l, d, ver, ho, rfl, rfl⟩
    · simp only [X'] at ho ⊢; rw [if_neg (hne o hd)] at ho; rw [if_neg (hne o hd)]; exact ⟨cs, ho, rfl⟩
    · have hon : o ≠ nx := by rintro rfl; simp only [X', if_true] at ho; cases ho
      simp only [X'] at ho ⊢; rw [if_neg hon] at ho; rw [if_neg hon]
      exact ⟨xs, l, d, ho, rfl, fun b k v hz hv => ⟨Or.inr (by rw [← hown b k (cell_lt hv)] at hz; exact hz), hcell b k v hv⟩, fun i hi c e' ys hc => ⟨⟨hi, hc⟩, fun b k cap v _ hv => hcell _ _ _ hv⟩⟩
  have hob : ∀ o, (S.puts [(nx, some (.box cs))]).ob o = if o = nx then some (.box cs) else S.ob o := fun o => by rw [ob_puts]; rfl
  refine ⟨X', fun o n => D o n ∨ (o = nx ∧ n = 0), rfl, ⟨fun o => ?_, fun b k o m ho => ?_, I.fr.trans (Frm.alloc _), fun p hp => ⟨by simp only [X']; rw [if_neg (hne p (I.pin p hp).2)]; exact (I.pin p hp).1, Or.inl (I.pin p hp).2⟩, I.tmps.keeps K I.okt, fun o x hx => ?_, I.okt.mono (fun _ _ h => Or.inl h), fun o x hx => ?_, fun o x hx => ?_, fun o e xs l d ver hx => ?_, fun o ho => ?_, fun o v hv => hv.imp (I.dknown o v) fun h => ⟨h.1, rfl⟩, fun o e xs l d ver hx v hv => ?_⟩, ?_, Or.inr ⟨rfl, rfl⟩, fun _ _ h => Or.inl h, Nat.le_succ _, fun o ho => ?_⟩
  · rw [hob]; simp only [X']; rw [I.ob]
  · simp only [X', ownNew] at ho ⊢
    split at ho
    · rename_i hb; cases ho
      refine ⟨by rw [size_alloc]; omega, Or.inl ?_, ⟨_, by rw [hob, if_pos rfl]⟩⟩
      rw [hb.1]; exact I.fr.size
    · obtain ⟨h1, h2, x, h3⟩ := I.dom b k o m ho
      refine ⟨by rw [size_alloc]; omega, h2, x, ?_⟩
      rw [hob, if_neg (hne o (I.dob o x h3))]; exact h3
  · rw [hob] at hx
    split at hx
    · rename_i ho; subst ho; cases hx
      refine ⟨X.W.heap.size, 0, us, by simp [X'], h.keeps K hd, fun j v hj => ?_⟩
      have hjl := (List.getElem?_eq_some_iff.1 hj).1
      refine ⟨by show ownNew _ _ _ _ _ _ = _; unfold ownNew; exact if_pos ⟨rfl, by omega⟩, ?_, ?_⟩
      · show (X.W.alloc _).cell? _ = _
        rw [World.cell?_alloc_at _ _ _ _ rfl]
        simpa using hj
      · exact World.frozen?_alloc_at _ _ _ _ rfl
    · rename_i ho
      refine (I.obs o x hx).keeps K (by simp only [X']; rw [if_neg ho]) (I.oko o x hx) fun b k m hz => ?_
      have hb := (I.dom b k o m hz).1
      exact ⟨by rw [hown b k hb]; exact hz, World.frozen?_alloc_past _ b k hb, fun v => hcell b k v⟩
  · rw [hob] at hx
    split at hx
    · cases hx; exact hd.mono fun _ _ h => Or.inl h
    · have := I.oko o x hx
      cases x with
      | box cs => exact okL.mono (fun _ _ h => Or.inl h) (by exact this)
      | arr => trivial
  · rw [hob] at hx
    split at hx
    · rename_i ho; exact Or.inr ⟨ho, rfl⟩
    · exact Or.inl (I.dob o x hx)
  · rw [hob] at hx
    split at hx
    · cases hx
    · exact Or.inl (I.dcur o e xs l d ver hx)
  · have hl := puts_len [(nx, some (.box cs))] S
    rcases ho with ho | ⟨rfl, _⟩
    · exact Nat.lt_of_lt_of_le (I.dlen o ho) hl.1
    · exact hl.2 _ (List.mem_singleton.2 rfl)
  · rw [hob] at hx
    split at hx
    · cases hx
    · rename_i ho; exact hv.elim (I.dver o e xs l d ver hx v) fun h => absurd h.1 ho
  · refine ⟨⟨_, rfl⟩, fun cs' hc => ⟨X.W.heap.size, 0, by simp [X'], rfl⟩⟩
  · exact ho.imp id fun h => by have := h.1; simp only []; omega
end Go.Evr

namespace Go.Evr

/-! ### What a call is given and what it gives -/
/-- A value of a kind and its cells. -/
def Shape (t : Ty) (v : Value) (cs : List Value) : Prop := if t.isSt = true then v = .agg cs.toArray else cs = [v]

/-- The arguments; V: where may be read, Z: what is handed over. -/
def ArgsOk (V : Zone) (W : World) : (ms : List Md) → (argT ms).den → List Value → Zone → Prop
  | [], _, us, _ => us = []
  | .view t :: ms, x, us, Z => ∃ u us' vs, us = u :: us' ∧ Rep V W t x.1 vs ∧ Shape t u vs ∧ ArgsOk V W ms x.2 us' Z
  | .ro t :: ms, x, us, Z => ∃ b k vs us', us = .pointer (some ⟨b, k, none⟩) :: us' ∧ Rep V W t x.1 vs ∧ At V W b k vs ∧ ArgsOk V W ms x.2 us' Z
  | .io t :: ms, x, us, Z => ∃ b k vs us' Z2 Z3, us = .pointer (some ⟨b, k, none⟩) :: us' ∧ (∀ j, j < t.cells → Z b (k + j)) ∧ (∀ b' k', Z2 b' k' → Z b' k') ∧ (∀ b' k', Z3 b' k' → Z b' k') ∧
      (∀ b' k', Z2 b' k' → ¬ Z3 b' k') ∧ (∀ j, j < t.cells → ¬ Z2 b (k + j) ∧ ¬ Z3 b (k + j)) ∧ Mine W b k t.cells ∧ (∀ j v, vs[j]? = some v → W.cell? ⟨b, k + j, none⟩ = some v) ∧ Own Z2 W t x.1 vs ∧ ArgsOk V W ms x.2 us' Z3
  | .mut e :: ms, x, us, Z => ∃ u us' Z2 Z3, us = u :: us' ∧ (∀ b' k', Z2 b' k' → Z b' k') ∧ (∀ b' k', Z3 b' k' → Z b' k') ∧ (∀ b' k', Z2 b' k' → ¬ Z3 b' k') ∧ Own Z2 W (.sl e) x.1 [u] ∧ ArgsOk V W ms x.2 us' Z3
  | .take e :: ms, x, us, Z => ∃ u us' Z2 Z3, us = u :: us' ∧ (∀ b' k', Z2 b' k' → Z b' k') ∧ (∀ b' k', Z3 b' k' → Z b' k') ∧ (∀ b' k', Z2 b' k' → ¬ Z3 b' k') ∧ Own Z2 W (.sl e) x.1 [u] ∧ ArgsOk V W ms x.2 us' Z3
  | .clo f a b :: ms, x, us, Z => ∃ fs cs us' : List Value, us = .func (.func f) fs.toArray cs.toArray :: us' ∧ fs.length = a ∧ cs.length = b ∧ ArgsOk V W ms x (fs ++ cs ++ us') Z
  | .agg n :: ms, x, us, Z => ∃ cs us' : List Value, us = .agg cs.toArray :: us' ∧ cs.length = n ∧ ArgsOk V W ms x (cs ++ us') Z

/-- What is given back of the arguments. -/
def OutsOk (W : World) : (ms : List Md) → (outT ms).den → List Value → Zone → Prop
  | [], _, _, _ => True
  | .view _ :: ms, y, us, Z => ∃ u us', us = u :: us' ∧ OutsOk W ms y us' Z
  | .ro _ :: ms, y, us, Z => ∃ u us', us = u :: us' ∧ OutsOk W ms y us' Z
  | .take _ :: ms, y, us, Z => ∃ u us', us = u :: us' ∧ OutsOk W ms y us' Z
  | .io t :: ms, y, us, Z => ∃ b k vs us' Z2 Z3, us = .pointer (some ⟨b, k, none⟩) :: us' ∧ (∀ j, j < t.cells → Z b (k + j)) ∧ (∀ b' k', Z2 b' k' → Z b' k') ∧ (∀ b' k', Z3 b' k' → Z b' k') ∧
      (∀ b' k', Z2 b' k' → ¬ Z3 b' k') ∧ (∀ j, j < t.cells → ¬ Z2 b (k + j) ∧ ¬ Z3 b (k + j)) ∧ Mine W b k t.cells ∧ (∀ j v, vs[j]? = some v → W.cell? ⟨b, k + j, none⟩ = some v) ∧ Own Z2 W t y.1 vs ∧ OutsOk W ms y.2 us' Z3
  | .mut e :: ms, y, us, Z => ∃ a n cap us' Z2 Z3, us = .slice a n cap :: us' ∧ (∀ b' k', Z2 b' k' → Z b' k') ∧ (∀ b' k', Z3 b' k' → Z b' k') ∧ (∀ b' k', Z2 b' k' → ¬ Z3 b' k') ∧ Own Z2 W (.sl e) y.1 [.slice a (llen y.1) cap] ∧ OutsOk W ms y.2 us' Z3
  | .clo f _ _ :: ms, y, us, Z => ∃ fs cs us' : List Value, us = .func (.func f) fs.toArray cs.toArray :: us' ∧ OutsOk W ms y (fs ++ cs ++ us') Z
  | .agg _ :: ms, y, us, Z => ∃ cs us' : List Value, us = .agg cs.toArray :: us' ∧ OutsOk W ms y (cs ++ us') Z

/-- Results, and what is given back. -/
def RetsOk (W : World) (us : List Value) : (ts : List Ty) → (ms : List Md) → (resT ts ms).den → List Value → Zone → Prop
  | [], ms, y, vs, Z => vs = [] ∧ OutsOk W ms y us Z
  | t :: ts, ms, y, vs, Z => ∃ v vs' cs Z2 Z3, vs = v :: vs' ∧ (∀ b' k', Z2 b' k' → Z b' k') ∧ (∀ b' k', Z3 b' k' → Z b' k') ∧ (∀ b' k', Z2 b' k' → ¬ Z3 b' k') ∧ Own Z2 W t y.1 cs ∧ Shape t v cs ∧ RetsOk W us ts ms y.2 vs' Z3

def tupled (vs : List Value) : Value := match vs with
  | [v] => v
  | vs => .tuple vs.toArray

/-- What the end of a call is to be. -/
def Post (en : Entry) (r : en.R) (W0 : World) (R0 : Zone) (us : List Value) (v : Value) (W' : World) : Prop :=
  ∃ vs, v = tupled vs ∧ Frm R0 W0 W' ∧ RetsOk W' us en.rs en.ps r vs fun b k => R0 b k ∨ W0.heap.size ≤ b

/-- A function is called, or answers at once. -/
def FnOk (P : Program) (f : Nat) (args : Array Value) (W : World) (R : Value → World → Prop) : Prop :=
  ((callFunc f args).run P W = .ok (.enter f args) W ∧ Calls P f args W fun e w' => ∃ v, e = .returned v ∧ R v w') ∨ ∃ v W', (callFunc f args).run P W = .ok (.value v) W' ∧ R v W'
theorem FnOk.mono {P : Program} {f : Nat} {args : Array Value} {W : World} {R R' : Value → World → Prop} (h : FnOk P f args W R) (k : ∀ v w, R v w → R' v w) : FnOk P f args W R' :=
  h.elim (fun h => Or.inl ⟨h.1, h.2.mono fun e w ⟨v, h1, h2⟩ => ⟨v, h1, k v w h2⟩⟩) fun ⟨v, w, h1, h2⟩ => Or.inr ⟨v, w, h1, k v w h2⟩

/-- A call's answer is true. -/
def CallOk (P : Program) (en : Entry) (x : (argT en.ps).den) (r : en.R) : Prop :=
  ∀ W us V Z, ArgsOk V W en.ps x us Z → (∀ b k, V b k → ¬ Z b k) → FnOk P en.fid us.toArray W fun v W' => Post en r W Z us v W'

/-- Where the first objects lie. -/
def PinsOk (L0 : Nat → Loc) : List Md → List Value → Nat → Prop
  | [], _, _ => True
  | .io _ :: ms, us, p => ∃ b k us', us = .pointer (some ⟨b, k, none⟩) :: us' ∧ L0 p = .box b k ∧ PinsOk L0 ms us' (p + 1)
  | .mut _ :: ms, us, p => ∃ a n cap us', us = .slice a n cap :: us' ∧ L0 p = .arr a cap ∧ PinsOk L0 ms us' (p + 1)
  | .clo f _ _ :: ms, us, p => ∃ fs cs us' : List Value, us = .func (.func f) fs.toArray cs.toArray :: us' ∧ PinsOk L0 ms (fs ++ cs ++ us') p
  | .agg _ :: ms, us, p => ∃ cs us' : List Value, us = .agg cs.toArray :: us' ∧ PinsOk L0 ms (cs ++ us') p
  | .view _ :: ms, us, p => ∃ u us', us = u :: us' ∧ PinsOk L0 ms us' p
  | .ro _ :: ms, us, p => ∃ u us', us = u :: us' ∧ PinsOk L0 ms us' p
  | .take _ :: ms, us, p => ∃ u us', us = u :: us' ∧ PinsOk L0 ms us' p

/-- From here the function comes to its end. -/
def Ends (P : Program) (f : Nat) (m : Machine) (cs : List Frame) (Q : Value → World → Prop) : Prop :=
  ∃ v W' fr, Q v W' ∧ Steps P m (lone fr cs W') ∧ fr.fn = f ∧ fr.leaving P W' (.returned v)

theorem Ends.steps {P : Program} {f : Nat} {m m' : Machine} {cs : List Frame} {Q : Value → World → Prop} (h : Steps P m m') (k : Ends P f m' cs Q) : Ends P f m cs Q := by
  obtain ⟨v, W', fr, h1, h2, h3⟩ := k
  exact ⟨v, W', fr, h1, h.trans h2, h3⟩

def base (f : Nat) : Frame := { (default : Frame) with fn := f, kind := .normal }

/-- An answer is true where the code that is left is 'todo'. -/
def WalkOk (P : Program) (en : Entry) (todo : List Item) (S : St) (r : en.R) : Prop :=
  ∀ X D E tm, Inv X D E S tm → E.np = pins en.ps → PinsOk E.L0 en.ps E.us 0 → ∀ cs, Ends P en.fid (lone ((base en.fid).at ⟨tm.toArray, []⟩ todo) cs X.W) cs (Post en r E.W0 E.R0 E.us)

/-- .. at a point of a function, a loop's head among them. -/
def PointOk (P : Program) (en : Entry) (todo : List Item) (S : St) (r : en.R) : Prop := WalkOk P en (headed todo) S r

section
variable {C : Ctx} {P : Program}

theorem tmp_rel {X : Cx} {D : Nat → Nat → Prop} {E : Env} {S : St} {tm : List Value} (I : Inv X D E S tm) (t : Nat) : VRel X (S.tmp t) ((⟨tm.toArray, []⟩ : Act).eval (.tmp t)) := by
  unfold St.tmp
  show VRel X _ (tm.toArray.getD t undef)
  by_cases h : t < S.tmps.length
  · obtain ⟨v, h1, h2⟩ := I.tmps.get t h
    have : tm.toArray.getD t undef = v := by
      rw [Array.getD_eq_getD_getElem?]; simp [h1]
    rw [this]; exact h2
  · rw [List.getD_eq_getElem?_getD, List.getElem?_eq_none (by omega)]; trivial

theorem constCell_rel {X : Cx} (v : Value) : VRel X (constCell v) v := by
  cases v with
  | bool b => rfl
  | int k n => rfl
  | string s => rfl
  | slice a n c => cases n <;> cases c <;> first | exact ⟨a, rfl⟩ | trivial
  | pointer a => cases a <;> first | exact Or.inl rfl | trivial
  | nilFunc => exact Or.inr rfl
  | _ => trivial
theorem constCell_ok {D : Nat → Nat → Prop} (v : Value) : (constCell v).ok D := by
  cases v with
  | slice a n c => cases n <;> cases c <;> trivial
  | pointer a => cases a <;> trivial
  | _ => trivial
theorem constCells_rel {X : Cx} : ∀ (l : List Value), LRel X (l.map constCell) l
  | [] => rfl
  | v :: l => ⟨v, l, rfl, constCell_rel v, constCells_rel l⟩
theorem constCells_ok {D : Nat → Nat → Prop} : ∀ (l : List Value), okL D (l.map constCell)
  | [] => trivial
  | v :: l => ⟨constCell_ok v, constCells_ok l⟩
theorem const_rel {X : Cx} (v : Value) : VRel X (constFV v) v := by
  unfold constFV
  split
  · exact ⟨[], [], rfl, rfl, rfl⟩
  · rename_i cs; exact ⟨cs.toList, by simp, constCells_rel _⟩
  · exact constCell_rel v
theorem const_ok {D : Nat → Nat → Prop} (v : Value) : (constFV v).ok D := by
  unfold constFV
  split
  · exact ⟨trivial, trivial⟩
  · exact constCells_ok _
  · exact constCell_ok v

theorem ev_rel {X : Cx} {D : Nat → Nat → Prop} {E : Env} {S : St} {tm : List Value} (I : Inv X D E S tm) (o : Operand) : VRel X (S.ev o) ((⟨tm.toArray, []⟩ : Act).eval o) := by
  cases o with
  | tmp t => exact tmp_rel I t
  | const v => exact const_rel v
  | global g => trivial
  | func f => exact ⟨[], [], rfl, rfl, rfl⟩

/-- A slot that holds a bool is the same whether its truth is written out. -/
theorem Inv.setBool {X : Cx} {D : Nat → Nat → Prop} {E : Env} {S : St} {tm : List Value} (I : Inv X D E S tm) {t : Nat} {q : Bool} (h : S.tmp t = .bool q) : Inv X D E (S.set (some t) (.bool q)) tm := by
  have ht : ∀ (l : List FV) (t : Nat), l.getD t .bad = .bool q → setL .bad l t (.bool q) = l := by
    intro l
    induction l with
    | nil => intro t h; simp at h
    | cons a l ih =>
      intro t h
      cases t with
      | zero => simp at h; simp [setL, h]
      | succ t => simp only [setL]; rw [ih t (by simpa using h)]
  have : S.set (some t) (.bool q) = S := by
    unfold St.set
    simp only [ht S.tmps t h]
  rw [this]; exact I
end
end Go.Evr

namespace Go.Evr

/-! ### The program's kinds -/
def zeroV : Ty → List Value
  | .int k => [.int k 0]
  | .bool => [.bool false]
  | .str => [.string ByteArray.empty]
  | .sl _ => [.slice none 0 0]
  | .unit => []
  | .pair a b => zeroV a ++ zeroV b
  | .st t => zeroV t
  | .ref => [.pointer none]

def Flds (C : Ctx) : Ty → List Field → Nat → Prop
  | .unit, [], _ => True
  | .pair a b, f :: fs, off => f.offset = off ∧ C.ty f.type = some a ∧ f.name ≠ "_" ∧ Flds C b fs (off + a.cells)
  | _, _, _ => False

def DescOk (C : Ctx) (P : Program) (t : Nat) : Ty → Prop
  | .int k => P.underlying t = some (.int k)
  | .bool => P.underlying t = some .bool
  | .str => P.underlying t = some .string
  | .sl e => ∃ te, P.underlying t = some (.slice te) ∧ C.ty te = some e
  | .st w => ∃ fs, P.underlying t = some (.struct fs) ∧ Flds C w fs.toList 0 ∧ P.stoodInHeld t = false ∧ P.eqGuardType P.depth t = false
  | .ref => ∃ d, P.underlying t = some d ∧ (match d with | .struct _ | .array _ _ => true | _ => false) = false
  | _ => False

def ZeroOk : Ty → Value → Prop
  | .ref, z => z = .pointer none ∨ z = .nilFunc
  | .st w, z => z = .agg (zeroV w).toArray
  | t, z => zeroV t = [z]

/-- A kind in the table is the program's. -/
structure TyS (C : Ctx) (P : Program) (t : Nat) (u : Ty) : Prop where
  info : ∃ i z, P.info? t = some i ∧ i.size = u.cells ∧ i.zero = some z ∧ ZeroOk u z ∧ i.bytes ≤ 16384 ∧ 0 < i.bytes
  desc : DescOk C P t u

def CtxOk (C : Ctx) (P : Program) : Prop := ∀ t u, C.ty t = some u → TyS C P t u

section
variable {C : Ctx} {P : Program}

def Ty.isAgg : Ty → Bool
  | .st _ => true
  | _ => false

theorem run_isAgg {t : Nat} {u : Ty} (h : TyS C P t u) (w : World) : (isAgg t).run P w = .ok u.isAgg w := by
  have hd := h.desc
  cases u with
  | st w' => obtain ⟨fs, hu, _⟩ := hd; simp [isAgg, run_underlying hu, Ty.isAgg]
  | int k => simp [isAgg, run_underlying hd, Ty.isAgg]
  | bool => simp [isAgg, run_underlying hd, Ty.isAgg]
  | str => simp [isAgg, run_underlying hd, Ty.isAgg]
  | sl e => obtain ⟨te, hu, _⟩ := hd; simp [isAgg, run_underlying hu, Ty.isAgg]
  | ref => obtain ⟨d, hu, hq⟩ := hd; cases d <;> simp [isAgg, run_underlying hu, Ty.isAgg] <;> simp at hq
  | unit => exact hd.elim
  | pair _ _ => exact hd.elim

theorem run_sizeOf' {t : Nat} {u : Ty} (h : TyS C P t u) (w : World) : (sizeOf t).run P w = .ok u.cells w := by
  obtain ⟨i, z, hi, hs, _⟩ := h.info
  simp [sizeOf, typeInfo, hi, hs]

theorem run_zeroValue' {t : Nat} {u : Ty} (h : TyS C P t u) (w : World) : ∃ z, (zeroValue t).run P w = .ok z w ∧ ZeroOk u z := by
  obtain ⟨i, z, hi, _, hz, ho, _⟩ := h.info
  exact ⟨z, by simp [zeroValue, typeInfo, hi, hz], ho⟩

theorem addr_add (b k n : Nat) : (⟨b, k, none⟩ : Addr).add n = ⟨b, k + n, none⟩ := by unfold Addr.add; split <;> simp_all

/-- The value that lies in cells. -/
def valOf (u : Ty) (us : List Value) : Value := if u.isAgg then .agg us.toArray else us.getD 0 undef

theorem run_loadVar' {t : Nat} {u : Ty} (h : TyS C P t u) {w : World} {b k : Nat} {us : List Value} (hl : us.length = u.cells) (hc : ∀ j v, us[j]? = some v → w.cell? ⟨b, k + j, none⟩ = some v) :
    (loadVar t ⟨b, k, none⟩).run P w = .ok (valOf u us) w := by
  simp only [loadVar, Sem.run_bind, run_isAgg h, Result.andThen_ok]
  cases hu : u.isAgg with
  | true =>
    have := run_loadCells_list (P := P) w ⟨b, k, none⟩ us (fun j v hj => by rw [addr_add]; exact hc j v hj)
    rw [hl] at this
    simp [run_sizeOf' h, this, valOf, hu]
  | false =>
    have hone : u.cells = 1 := by
      have hd := h.desc
      cases u <;> first | rfl | exact hd.elim | cases hu
    obtain ⟨v, rfl⟩ : ∃ v, us = [v] := by
      match us, hl with
      | [v], _ => exact ⟨v, rfl⟩
      | [], hl => rw [hone] at hl; cases hl
      | _ :: _ :: _, hl => rw [hone] at hl; simp at hl
    have := hc 0 v rfl
    simp at this
    simp [this, valOf, hu]

theorem valOf_rel {X : Cx} {t : Nat} {u : Ty} {cs : List FV} {us : List Value} (h : LRel X cs us) (hl : cs.length = u.cells) (hd : DescOk C P t u) : VRel X (wrapSt u cs) (valOf u us) := by
  cases u with
  | st w => exact ⟨us, rfl, h⟩
  | unit => exact hd.elim
  | pair _ _ => exact hd.elim
  | _ =>
    match cs, h, hl with
    | [c], h, _ =>
      obtain ⟨v, us', rfl, hv, rfl⟩ := h
      exact hv
    | [], _, hl => cases hl
    | _ :: _ :: _, _, hl => simp [Ty.cells] at hl

theorem wrapSt_ok {D : Nat → Nat → Prop} {u : Ty} {cs : List FV} (h : okL D cs) : (wrapSt u cs).ok D := by
  unfold wrapSt
  split
  · exact h
  · split
    · exact h.1
    · trivial
end
end Go.Evr

namespace Go.Evr
section
variable {C : Ctx} {P : Program}

/-- An operation is done as reckoned. -/
def OpOk (P : Program) (X : Cx) (D : Nat → Nat → Prop) (E : Env) (S : St) (tm : List Value) (nx : Nat) (o : Oper) (e : Eff) : Prop :=
  ∃ r v W', (execOp (⟨tm.toArray, []⟩ : Act).eval o).run P X.W = .ok r W' ∧ (r = .value v ∨ (r = .skip ∧ v = undef)) ∧ Done X D E S tm nx e v W'

theorem OpOk.val {X : Cx} {D : Nat → Nat → Prop} {E : Env} {S : St} {tm : List Value} {nx : Nat} {o : Oper} {f : FV} {g : List Bool} {v : Value} (I : Inv X D E S tm)
    (hr : (execOp (⟨tm.toArray, []⟩ : Act).eval o).run P X.W = .ok (.value v) X.W) (hv : VRel X f v) (hd : f.ok D) : OpOk P X D E S tm nx o ⟨f, [], nx, g⟩ :=
  ⟨_, v, X.W, hr, Or.inl rfl, Done.pure I hv hd⟩

theorem ev_ok {X : Cx} {D : Nat → Nat → Prop} {E : Env} {S : St} {tm : List Value} (I : Inv X D E S tm) (o : Operand) : (S.ev o).ok D := by
  cases o with
  | tmp t => exact okL.get t I.okt
  | const v => exact const_ok v
  | global g => trivial
  | func f => exact ⟨trivial, trivial⟩

variable {X : Cx} {D : Nat → Nat → Prop} {E : Env} {S : St} {tm : List Value} {nx : Nat} {o : Oper} {l : List Nat} {e : Eff}

theorem val_some {v : FV} {nx : Nat} {h : Nat → Option Ob} (k : val v nx h = some (l, e)) : e = ⟨v, [], nx, []⟩ := by cases k; rfl
theorem valG_some {g : List Bool} {v : FV} {nx : Nat} {h : Nat → Option Ob} (k : valG g v nx h = some (l, e)) : e = ⟨v, [], nx, g⟩ := by cases k; rfl

theorem obs' (I : Inv X D E S tm) : ∀ o x, X.ob o = some x → ObRel X o x := fun o x h => I.obs o x ((I.ob o).symm.trans h)
theorem obF (I : Inv X D E S tm) : S.ob = X.ob := funext fun o => (I.ob o).symm

theorem op_move {x : Operand} (ho : o.op = .move x ∨ o.op = .assign x) (I : Inv X D E S tm) : OpOk P X D E S tm nx o ⟨S.ev x, [], nx, []⟩ := by
  refine OpOk.val I (v := (⟨tm.toArray, []⟩ : Act).eval x) ?_ (ev_rel I x) (ev_ok I x)
  rcases ho with ho | ho <;> simp [execOp, ho]

theorem cellsAt_ok {n : Nat} {f : FV} {l : List Nat} {cs : List FV} (I : Inv X D E S tm) (hf : f.ok D) (h : cellsAt n f X.ob = some (l, cs)) : okL D cs := by
  cases f with
  | ptr o off =>
    obtain ⟨l1, x, l2, z, h1, h2, he⟩ := Rd.bind_some h
    cases he
    obtain ⟨y, hy, hh⟩ := Rd.look_some h1
    cases hh
    cases x with
    | arr _ _ _ _ _ => cases h2
    | box bs => cases h2; exact okL.take _ (okL.drop _ (I.oko _ _ ((I.ob o).symm.trans hy)))
  | ept o i off =>
    obtain ⟨l1, x, l2, z, h1, h2, he⟩ := Rd.bind_some h
    cases he
    obtain ⟨y, hy, hh⟩ := Rd.look_some h1
    cases hh
    cases x with
    | box _ => cases h2
    | arr e xs lv d ver =>
      cases h2
      refine okL.take _ (okL.drop _ (explode_ok fun c q hq => ?_))
      split at hq
      · cases hq; exact I.dcur _ _ _ _ _ _ ((I.ob o).symm.trans hy)
      · cases hq
  | vpt t bs =>
    cases t with
    | none => cases h; exact okL.take _ hf.2
    | some q =>
      obtain ⟨q, qp⟩ := q
      replace h : ((tagOk q).bind fun _ => Rd.pure (bs.take n)) X.ob = some (l, cs) := h
      obtain ⟨l1, x, l2, z, h1, h2, he⟩ := Rd.bind_some h
      cases h2
      cases he
      exact okL.take _ hf.2
  | bad => cases h
  | int _ _ => cases h
  | bool _ => cases h
  | str _ => cases h
  | nsl => cases h
  | isl _ _ _ => cases h
  | fsl _ => cases h
  | osl _ _ _ => cases h
  | clo _ _ _ => cases h
  | nilp => cases h
  | agg _ => cases h
  | tup _ => cases h
  | nilb _ => cases h

theorem op_load (hC : CtxOk C P) {t : Nat} {a : Operand} (ho : o.op = .load t a) (I : Inv X D E S tm) (h : evOp C nx S.ev o.op S.ob = some (l, e)) : OpOk P X D E S tm nx o e := by
  rw [ho] at h
  simp only [evOp] at h
  cases ht : C.ty t with
  | none => rw [ht] at h; cases h
  | some u =>
    rw [ht, obF I] at h
    obtain ⟨l1, cs, l2, z, h1, h2, he⟩ := Rd.bind_some h
    split at h2
    · rename_i hlen
      cases val_some h2
      cases he
      obtain ⟨b, k, us, hv, hr, hat⟩ := cellsAt_rel (obs' I) h1 hlen (ev_rel I a)
      have hus : us.length = u.cells := by rw [hr.len, hlen]
      refine OpOk.val I (v := valOf u us) ?_ (valOf_rel (P := P) hr hlen (hC t u ht).desc) (wrapSt_ok (cellsAt_ok I (ev_ok I a) h1))
      have := run_loadVar' (P := P) (hC t u ht) (w := X.W) (b := b) (k := k) hus (fun j v hj => (hat j v hj).2)
      simp [execOp, ho, hv, Instr.loadAt, Instr.sureAddr, this]
    · cases h2

theorem op_nilCheck {x : Operand} (ho : o.op = .nilCheck x) (I : Inv X D E S tm) (h : evOp C nx S.ev o.op S.ob = some (l, e)) : OpOk P X D E S tm nx o e := by
  rw [ho] at h
  simp only [evOp] at h
  have hr := ev_rel I x
  have hk := ev_ok I x
  cases hf : S.ev x with
  | ptr p off =>
    rw [hf] at h hr hk
    cases val_some h
    obtain ⟨⟨a, ha⟩, hr2⟩ := hr
    exact OpOk.val I (v := .pointer (some a)) (by simp [execOp, ho, ha]) ⟨⟨a, rfl⟩, by rw [ha] at hr2; exact hr2⟩ hk
  | ept p i off =>
    rw [hf] at h hr hk
    cases val_some h
    obtain ⟨⟨a, ha⟩, hr2⟩ := hr
    exact OpOk.val I (v := .pointer (some a)) (by simp [execOp, ho, ha]) ⟨⟨a, rfl⟩, by rw [ha] at hr2; exact hr2⟩ hk
  | vpt t cs =>
    rw [hf] at h hr hk
    cases val_some h
    obtain ⟨b, k, hv, hr2⟩ := hr
    refine OpOk.val I (v := .pointer (some ⟨b, k, none⟩)) ?_ ⟨b, k, rfl, hr2⟩ hk
    simp [execOp, ho, hv]
  | clo f a b =>
    rw [hf] at h hr hk
    cases val_some h
    obtain ⟨fs, cs, hv, hr2⟩ := hr
    refine OpOk.val I (v := .func (.func f) fs.toArray cs.toArray) ?_ ⟨fs, cs, rfl, hr2⟩ hk
    simp [execOp, ho, hv]
  | _ => rw [hf] at h; cases h


theorem wrap_kind (k : IntKind) (x : Int) : iwr k x = k.wrap x := rfl

theorem binK_some {op : BinOp} {k : IntKind} {x y : Int} {h : Nat → Option Ob} (hb : binK nx op k x y h = some (l, e)) (g : ∀ b ∈ e.guards, b = true) {yk : IntKind} {t : Nat} {w : World}
    (hk : op = .shl ∨ op = .shr ∨ yk = k) :
    ∃ f v, e = ⟨f, [], nx, e.guards⟩ ∧ (binOp op t (.int k x) (.int yk y)).run P w = .ok v w ∧ (∀ X, VRel X f v) ∧ ∀ D, f.ok D := by
  cases op <;> simp only [binK] at hb
  case add => cases val_some hb; rcases hk with hk | hk | rfl <;> first | cases hk | exact ⟨_, _, rfl, by simp [binOp, Op.intArith]; rfl, fun X => rfl, fun D => trivial⟩
  case sub => cases val_some hb; rcases hk with hk | hk | rfl <;> first | cases hk | exact ⟨_, _, rfl, by simp [binOp, Op.intArith]; rfl, fun X => rfl, fun D => trivial⟩
  case mul => cases val_some hb; rcases hk with hk | hk | rfl <;> first | cases hk | exact ⟨_, _, rfl, by simp [binOp, Op.intArith]; rfl, fun X => rfl, fun D => trivial⟩
  case and => cases val_some hb; rcases hk with hk | hk | rfl <;> first | cases hk | exact ⟨_, _, rfl, by simp [binOp, Op.intBits]; rfl, fun X => rfl, fun D => trivial⟩
  case or => cases val_some hb; rcases hk with hk | hk | rfl <;> first | cases hk | exact ⟨_, _, rfl, by simp [binOp, Op.intBits]; rfl, fun X => rfl, fun D => trivial⟩
  case xor => cases val_some hb; rcases hk with hk | hk | rfl <;> first | cases hk | exact ⟨_, _, rfl, by simp [binOp, Op.intBits]; rfl, fun X => rfl, fun D => trivial⟩
  case andNot => cases val_some hb; rcases hk with hk | hk | rfl <;> first | cases hk | exact ⟨_, _, rfl, by simp only [binOp, ne_eq, not_true_eq_false, if_false]; rfl, fun X => rfl, fun D => trivial⟩
  case quo =>
    cases valG_some hb
    have hy : y ≠ 0 := by have := g (neq0 y) (by simp); simpa [neq0] using this
    rcases hk with hk | hk | rfl <;> first | cases hk | exact ⟨_, _, rfl, by simp [binOp, Op.intDiv, hy]; rfl, fun X => rfl, fun D => trivial⟩
  case rem =>
    cases valG_some hb
    have hy : y ≠ 0 := by have := g (neq0 y) (by simp); simpa [neq0] using this
    rcases hk with hk | hk | rfl <;> first | cases hk | exact ⟨_, _, rfl, by simp [binOp, Op.intDiv, hy]; rfl, fun X => rfl, fun D => trivial⟩
  case shl =>
    cases valG_some hb
    have hy : ¬ y < 0 := by have := g (nge0 y) (by simp); simp [nge0] at this; omega
    exact ⟨_, _, rfl, by simp [binOp, Op.shift, hy]; rfl, fun X => rfl, fun D => trivial⟩
  case shr =>
    cases valG_some hb
    have hy : ¬ y < 0 := by have := g (nge0 y) (by simp); simp [nge0] at this; omega
    exact ⟨_, _, rfl, by simp [binOp, Op.shift, hy]; rfl, fun X => rfl, fun D => trivial⟩
  all_goals
    cases val_some hb; rcases hk with hk | hk | rfl <;> first | cases hk | exact ⟨_, _, rfl, by simp [binOp, Op.intCmp]; rfl, fun X => rfl, fun D => trivial⟩

theorem eqGuard_none {op : BinOp} {t : Nat} {x y : Operand} {a b : Value} {w : World} (h : ∀ cs ds, a = .agg cs → b = .agg ds → False) (h2 : a ≠ .nilIface) : (eqGuard op t x y a b).run P w = .ok () w := by
  unfold eqGuard
  cases op <;> simp
  all_goals
    cases a <;> cases b <;> simp <;> first | (exact absurd rfl h2) | (exact (h _ _ rfl rfl).elim) | skip

/-- '==' of structs. -/
theorem eqd_run (hC : CtxOk C P) : ∀ {u : Ty} {x y : u.den} {r : Bool}, u.eqd x y = some r → True := fun _ => trivial

theorem equalIn_bool {t : Nat} (hu : P.underlying t = some .bool) (a b : Bool) (w : World) (d : Nat) : (Op.equalIn (d + 1) t (.bool a) (.bool b)).run P w = .ok (a == b) w := by
  simp only [Op.equalIn, Sem.run_bind, run_underlying hu, Result.andThen_ok, Sem.run_pure]
theorem equal_bool {t : Nat} (hu : P.underlying t = some .bool) (a b : Bool) (w : World) : (Op.equal t (.bool a) (.bool b)).run P w = .ok (a == b) w := equalIn_bool hu a b w 9999

theorem equalIn_nil {t te : Nat} (hu : P.underlying t = some (.slice te)) (a : Option Addr) (n c : Nat) (w : World) (d : Nat) : (Op.equalIn (d + 1) t (.slice a n c) (.slice none 0 0)).run P w = .ok a.isNone w := by
  cases a <;> simp [Op.equalIn, run_underlying hu]

theorem slLen_rel {X : Cx} (OB : ∀ o x, X.ob o = some x → ObRel X o x) {f : FV} {v : Value} {l : List Nat} {n : Nat} (h : slLen f X.ob = some (l, n)) (hv : VRel X f v) : ∃ a c, v = .slice a n c ∧ (a = none → n = 0) := by
  cases f with
  | nsl => cases h; obtain ⟨a, rfl⟩ := hv; exact ⟨a, 0, rfl, fun _ => rfl⟩
  | isl t e xs =>
    have key : tagLive X.ob t → n = llen xs → ∃ a c, v = .slice a n c ∧ (a = none → n = 0) := by
      intro hl hn
      obtain ⟨a, cap, hv2, hlen, hr⟩ := hv.2.1 hl
      cases hv2
      refine ⟨a, cap, by rw [hn]; rfl, fun ha => ?_⟩
      rcases Nat.eq_zero_or_pos n with h0 | h0
      · exact h0
      · obtain ⟨b, k, cs, hb, _⟩ := hr 0 (by rw [hn] at h0; exact h0)
        rw [ha] at hb; cases hb
    cases t with
    | none => cases h; exact key trivial rfl
    | some q =>
      obtain ⟨q, p⟩ := q
      replace h : ((tagOk q).bind fun _ => Rd.pure (llen xs)) X.ob = some (l, n) := h
      obtain ⟨l1, z, l2, b, h1, h2, he⟩ := Rd.bind_some h
      cases h2; cases he
      exact key (tagOk_some h1).1 rfl
  | fsl o =>
    obtain ⟨l1, x, l2, b, h1, h2, he⟩ := Rd.bind_some h
    obtain ⟨y, hy, hh⟩ := Rd.look_some h1
    cases hh
    cases x with
    | box _ => cases h2
    | arr e xs lv d ver =>
      cases h2; cases he
      obtain ⟨a, cap, hl, rfl⟩ := hv.2 _ _ _ _ _ hy
      obtain ⟨a', cap', hl', hc, hrow⟩ := (OB _ _ hy).rows
      rw [hl] at hl'
      cases hl'
      refine ⟨a, cap, rfl, fun ha => ?_⟩
      rcases Nat.eq_zero_or_pos xs.length with h0 | h0
      · exact h0
      · obtain ⟨b, k, cs, hb, _⟩ := hrow 0 h0
        rw [ha] at hb; cases hb
  | osl o lo m =>
    obtain ⟨l1, x, l2, b, h1, h2, he⟩ := Rd.bind_some h
    obtain ⟨y, hy, hh⟩ := Rd.look_some h1
    cases hh
    cases x with
    | box _ => cases h2
    | arr e xs lv d ver =>
      cases h2; cases he
      obtain ⟨a, cap, hl, hlo, a', rfl, hsh⟩ := hv.2 _ _ _ _ _ hy
      obtain ⟨a2, cap2, hl', hc, hrow⟩ := (OB _ _ hy).rows
      rw [hl] at hl'
      cases hl'
      refine ⟨a', cap - lo, rfl, fun ha => ?_⟩
      rcases Nat.eq_zero_or_pos n with h0 | h0
      · exact h0
      · obtain ⟨b, k, hb, ha'⟩ := hsh (by omega)
        rw [ha] at ha'; cases ha'
  | _ => cases h

theorem op_nil (hC : CtxOk C P) {op : BinOp} {t yt : Nat} {x y : Operand} (ho : o.op = .binOp op t x y yt) (hy : isNilC y = true) (I : Inv X D E S tm) (h : evNil C nx op t (S.ev x) S.ob = some (l, e)) : OpOk P X D E S tm nx o e := by
  have hx := ev_rel I x
  have hyv : (⟨tm.toArray, []⟩ : Act).eval y = .slice none 0 0 := by
    unfold isNilC at hy
    split at hy
    · rfl
    · cases hy
  unfold evNil at h
  split at h
  · rename_i ht
    have hte : ∃ u, C.ty t = some (.sl u) := by
      cases hct : C.ty t with
      | none => rw [hct] at ht; cases ht
      | some u => cases u <;> rw [hct] at ht <;> first | exact ⟨_, rfl⟩ | cases ht
    obtain ⟨u, hct⟩ := hte
    obtain ⟨te, hu, _⟩ := (hC t _ hct).desc
    cases op <;> simp only [] at h <;> first | (cases h; done) | skip
    rw [obF I] at h
    obtain ⟨l1, n, l2, b, h1, h2, he⟩ := Rd.bind_some h
    cases he
    cases val_some h2
    obtain ⟨a, c, hv, ha⟩ := slLen_rel (obs' I) h1 hx
    refine OpOk.val I (v := .bool a.isNone) ?_ ⟨a.isNone, rfl, fun hb => ha (by simpa using hb)⟩ trivial
    have hq : (Op.equal t (.slice a n c) (.slice none 0 0)).run P X.W = .ok a.isNone X.W := equalIn_nil hu a n c X.W 9999
    have gd := eqGuard_none (P := P) (op := .eql) (t := t) (x := x) (y := y) (a := .slice a n c) (b := .slice none 0 0) (w := X.W) (fun _ _ h => by cases h) (by simp)
    simp [execOp, ho, hv, hyv, gd, binOp, hq]
  · cases h

theorem op_bin (hC : CtxOk C P) {op : BinOp} {t yt : Nat} {x y : Operand} (ho : o.op = .binOp op t x y yt) (I : Inv X D E S tm) (h : evOp C nx S.ev o.op S.ob = some (l, e)) (g : ∀ b ∈ e.guards, b = true) : OpOk P X D E S tm nx o e := by
  rw [ho] at h
  simp only [evOp] at h
  by_cases hnil : isNilC y = true
  · rw [if_pos hnil] at h
    exact op_nil hC ho hnil I h
  rw [if_neg hnil] at h
  have hx := ev_rel I x
  have hy := ev_rel I y
  have fin : ∀ f v, e = ⟨f, [], nx, e.guards⟩ → (eqGuard op t x y ((⟨tm.toArray, []⟩ : Act).eval x) ((⟨tm.toArray, []⟩ : Act).eval y)).run P X.W = .ok () X.W →
      (binOp op t ((⟨tm.toArray, []⟩ : Act).eval x) ((⟨tm.toArray, []⟩ : Act).eval y)).run P X.W = .ok v X.W → VRel X f v → f.ok D → OpOk P X D E S tm nx o e := by
    intro f v he h1 h2 h3 h4
    rw [he]
    exact OpOk.val I (by simp [execOp, ho, h1, h2]) h3 h4
  cases hfx : S.ev x with
  | int k a =>
    rw [hfx] at h hx
    cases hfy : S.ev y with
    | int k' b =>
      rw [hfy] at h hy
      have ex : (⟨tm.toArray, []⟩ : Act).eval x = .int k a := hx
      have ey : (⟨tm.toArray, []⟩ : Act).eval y = .int k' b := hy
      rw [ex, ey] at fin
      have key : ∃ f v, e = ⟨f, [], nx, e.guards⟩ ∧ (binOp op t (.int k a) (.int k' b)).run P X.W = .ok v X.W ∧ (∀ X, VRel X f v) ∧ ∀ D, f.ok D := by
        cases op <;> simp only [evBin] at h
        case shl => exact binK_some h g (Or.inl rfl)
        case shr => exact binK_some h g (Or.inr (Or.inl rfl))
        all_goals
          split at h
          · rename_i hk; exact binK_some h g (Or.inr (Or.inr hk.symm))
          · cases h
      obtain ⟨f, v, h1, h2, h3, h4⟩ := key
      exact fin f v h1 (eqGuard_none (fun _ _ h => by cases h) (by simp)) h2 (h3 X) (h4 D)
    | _ => rw [hfy] at h; cases h
  | str a =>
    rw [hfx] at h hx
    cases hfy : S.ev y with
    | str b =>
      rw [hfy] at h hy
      have ex : (⟨tm.toArray, []⟩ : Act).eval x = .string a := hx
      have ey : (⟨tm.toArray, []⟩ : Act).eval y = .string b := hy
      rw [ex, ey] at fin
      have gd := eqGuard_none (P := P) (op := op) (t := t) (x := x) (y := y) (a := .string a) (b := .string b) (w := X.W) (fun _ _ h => by cases h) (by simp)
      cases op <;> simp only [evBin] at h <;> first | (cases h; done) | skip
      case add =>
        cases valG_some h
        have hs : (a.size : Int) + b.size ≤ 9223372036854775807 := by
          have := g _ (List.mem_singleton.2 rfl)
          exact of_decide_eq_true this
        refine fin _ (.string (a ++ b)) rfl gd ?_ rfl trivial
        have : ¬ (((a.size + b.size : Nat) : Int) > IntKind.i64.max) := by
          have : IntKind.i64.max = 9223372036854775807 := rfl
          omega
        simp only [binOp, Op.stringOp]
        rw [if_neg this]; rfl
      all_goals
        cases val_some h
        exact fin _ _ rfl gd (by simp only [binOp, Op.stringOp]; rfl) rfl trivial
    | _ => rw [hfy] at h; cases h
  | bool a =>
    rw [hfx] at h hx
    cases hfy : S.ev y with
    | bool b =>
      rw [hfy] at h hy
      have ex : (⟨tm.toArray, []⟩ : Act).eval x = .bool a := hx
      have ey : (⟨tm.toArray, []⟩ : Act).eval y = .bool b := hy
      rw [ex, ey] at fin
      have gd := eqGuard_none (P := P) (op := op) (t := t) (x := x) (y := y) (a := .bool a) (b := .bool b) (w := X.W) (fun _ _ h => by cases h) (by simp)
      simp only [evBin] at h
      split at h
      · rename_i ht
        have hu := (hC t _ ht).desc
        have hq : (Op.equal t (.bool a) (.bool b)).run P X.W = .ok (a == b) X.W := equal_bool hu _ _ _
        cases op <;> simp only [] at h <;> first | (cases h; done) | skip
        · cases val_some h
          exact fin _ (.bool (a == b)) rfl gd (by simp [binOp, hq]) rfl trivial
        · cases val_some h
          exact fin _ (.bool (!(a == b))) rfl gd (by simp [binOp, hq]) rfl trivial
      · cases h
    | _ => rw [hfy] at h; cases h
  | _ => rw [hfx] at h; cases h

theorem op_un {op : UnOp} {t : Nat} {x : Operand} (ho : o.op = .unOp op t x) (I : Inv X D E S tm) (h : evOp C nx S.ev o.op S.ob = some (l, e)) : OpOk P X D E S tm nx o e := by
  rw [ho] at h
  simp only [evOp] at h
  have hx := ev_rel I x
  cases hfx : S.ev x with
  | bool b =>
    rw [hfx] at h hx
    have ex : (⟨tm.toArray, []⟩ : Act).eval x = .bool b := hx
    cases op <;> simp only [evUn] at h <;> first | (cases h; done) | skip
    cases val_some h
    exact OpOk.val I (v := .bool (!b)) (by simp [execOp, ho, ex, Op.unary]) rfl trivial
  | int k n =>
    rw [hfx] at h hx
    have ex : (⟨tm.toArray, []⟩ : Act).eval x = .int k n := hx
    cases op <;> simp only [evUn] at h <;> first | (cases h; done) | skip
    · cases val_some h
      exact OpOk.val I (v := .int k (iar .sub k 0 n)) (by simp only [execOp, ho, ex, Op.unary, Op.intArith]; rfl) rfl trivial
    · cases val_some h
      exact OpOk.val I (v := .int k (iar .xor k (if k.signed then -1 else k.max) n)) (by simp only [execOp, ho, ex, Op.unary, Op.intBits]; rfl) rfl trivial
  | _ => rw [hfx] at h; cases op <;> cases h

theorem op_makeFunc {f : Nat} {a b : Array Operand} (ho : o.op = .makeFunc (.func f) a b) (I : Inv X D E S tm) (h : evOp C nx S.ev o.op S.ob = some (l, e)) : OpOk P X D E S tm nx o e := by
  rw [ho] at h
  simp only [evOp] at h
  cases val_some h
  have hl : ∀ l : List Operand, LRel X (l.map S.ev) (l.map (⟨tm.toArray, []⟩ : Act).eval) ∧ okL D (l.map S.ev) := by
    intro l
    induction l with
    | nil => exact ⟨rfl, trivial⟩
    | cons x l ih => exact ⟨⟨_, _, rfl, ev_rel I x, ih.1⟩, ev_ok I x, ih.2⟩
  refine OpOk.val I (v := .func (.func f) (a.map (⟨tm.toArray, []⟩ : Act).eval) (b.map (⟨tm.toArray, []⟩ : Act).eval)) (by simp [execOp, ho, Instr.makeFunc]) ⟨_, _, ?_, (hl a.toList).1, (hl b.toList).1⟩ ⟨(hl a.toList).2, (hl b.toList).2⟩
  have hm : ∀ a : Array Operand, a.map (⟨tm.toArray, []⟩ : Act).eval = (a.toList.map (⟨tm.toArray, []⟩ : Act).eval).toArray := fun a => by rw [← Array.toList_map, Array.toArray_toList]
  rw [hm a, hm b]

theorem op_extract {x : Operand} {i : Nat} (ho : o.op = .extract x i) (I : Inv X D E S tm) (h : evOp C nx S.ev o.op S.ob = some (l, e)) : OpOk P X D E S tm nx o e := by
  rw [ho] at h
  simp only [evOp] at h
  have hx := ev_rel I x
  have hk := ev_ok I x
  cases hfx : S.ev x with
  | tup vs =>
    rw [hfx] at h hx hk
    obtain ⟨us, ex, hr⟩ := hx
    cases hi : vs[i]? with
    | none =>
      replace h : (match vs[i]? with | some v => val v nx | none => Rd.fail) S.ob = some (l, e) := h
      rw [hi] at h; cases h
    | some v =>
      replace h : (match vs[i]? with | some v => val v nx | none => Rd.fail) S.ob = some (l, e) := h
      rw [hi] at h
      cases val_some h
      have hil := (List.getElem?_eq_some_iff.1 hi).1
      obtain ⟨u, h1, h2⟩ := hr.get i hil
      have hg : vs.getD i .bad = v := by rw [List.getD_eq_getElem?_getD, hi]; rfl
      rw [hg] at h2
      refine OpOk.val I (v := u) ?_ h2 (by have := okL.get i hk; rwa [hg] at this)
      simp [execOp, ho, ex, Instr.extract, h1]
  | _ => rw [hfx] at h; cases h

theorem op_index {t : Nat} {x i : Operand} (hC : CtxOk C P) (ho : o.op = .index t x i) (I : Inv X D E S tm) (h : evOp C nx S.ev o.op S.ob = some (l, e)) (g : ∀ b ∈ e.guards, b = true) : OpOk P X D E S tm nx o e := by
  rw [ho] at h
  simp only [evOp] at h
  have hx := ev_rel I x
  have hi := ev_rel I i
  have hs : C.ty t = some .str := by
    split at h
    · assumption
    · cases h
  rw [if_pos hs] at h
  cases hfx : S.ev x with
  | str s =>
    cases hfi : S.ev i with
    | int k n =>
      rw [hfx, hfi] at h
      rw [hfx] at hx
      rw [hfi] at hi
      have ex : (⟨tm.toArray, []⟩ : Act).eval x = .string s := hx
      have ei : (⟨tm.toArray, []⟩ : Act).eval i = .int k n := hi
      cases valG_some h
      have hg : 0 ≤ n ∧ n < s.size := by
        have := g _ (List.mem_singleton.2 rfl)
        simp only [inb, Bool.and_eq_true] at this
        exact ⟨of_decide_eq_true this.1, of_decide_eq_true this.2⟩
      have hlt : n.toNat < s.size := by omega
      have hget : s[n.toNat]? = some s[n.toNat] := by simp [hlt]
      refine OpOk.val I (v := .int .u8 (s[n.toNat]).toNat) ?_ ?_ trivial
      · have hu := (hC t _ hs).desc
        simp [execOp, ho, ex, ei, Instr.index, asIntOf, run_underlying hu, hg.1, hget]
      · show _ = _
        simp [sget, hget]
    | _ => rw [hfx, hfi] at h; cases h
  | _ => rw [hfx] at h; cases h
end
end Go.Evr

namespace Go.Evr
section
variable {C : Ctx} {P : Program}
variable {X : Cx} {D : Nat → Nat → Prop} {E : Env} {S : St} {tm : List Value} {nx : Nat} {o : Oper} {l : List Nat} {e : Eff}

theorem gT {p : Prop} [Decidable p] {g : List Bool} (h : ∀ b ∈ g, b = true) (hm : decide p ∈ g) : p := of_decide_eq_true (h _ hm)

theorem Flds.get {C : Ctx} : ∀ {u : Ty} {fs : List Field} {off i : Nat} {q : Nat × Ty}, Flds C u fs off → u.fieldOf i = some q → ∃ f, fs[i]? = some f ∧ f.offset = off + q.1 ∧ C.ty f.type = some q.2
  | .pair a b, [], _, _, _, h, _ => h.elim
  | .pair a b, f :: fs, off, 0, q, h, k => by cases k; exact ⟨f, rfl, h.1, h.2.1⟩
  | .pair a b, f :: fs, off, i + 1, q, h, k => by
    simp only [Ty.fieldOf] at k
    cases hb : b.fieldOf i with
    | none => rw [hb] at k; cases k
    | some r =>
      rw [hb] at k
      cases k
      obtain ⟨f', h1, h2, h3⟩ := Flds.get h.2.2.2 hb
      exact ⟨f', by simpa using h1, by rw [h2]; simp; omega, h3⟩
  | .unit, _, _, _, _, _, k => by cases k
  | .int _, _, _, _, _, _, k => by cases k
  | .bool, _, _, _, _, _, k => by cases k
  | .str, _, _, _, _, _, k => by cases k
  | .sl _, _, _, _, _, _, k => by cases k
  | .st _, _, _, _, _, _, k => by cases k
  | .ref, _, _, _, _, _, k => by cases k

theorem addr_add' (a : Addr) (b k n : Nat) (h : a = ⟨b, k, none⟩) : a.add n = ⟨b, k + n, none⟩ := by rw [h, addr_add]

theorem op_fieldAddr (hC : CtxOk C P) {t f : Nat} {x : Operand} (ho : o.op = .fieldAddr t x f) (I : Inv X D E S tm) (h : evOp C nx S.ev o.op S.ob = some (l, e)) : OpOk P X D E S tm nx o e := by
  rw [ho] at h
  simp only [evOp] at h
  have hx := ev_rel I x
  have hk := ev_ok I x
  cases ht : C.ty t with
  | none => rw [ht] at h; cases h
  | some u =>
    rw [ht] at h
    cases u with
    | st w =>
      cases hf : w.fieldOf f with
      | none => simp only [hf] at h; cases h
      | some q =>
        simp only [hf] at h
        split at h
        · cases h
        · rename_i hne
          obtain ⟨fs, hu, hfl, _⟩ := (hC t _ ht).desc
          obtain ⟨fd, h1, h2, h3⟩ := hfl.get hf
          have h1' : fs[f]? = some fd := by simpa using h1
          have run : ∀ a, (⟨tm.toArray, []⟩ : Act).eval x = .pointer (some a) → (execOp (⟨tm.toArray, []⟩ : Act).eval o).run P X.W = .ok (.value (.pointer (some (a.add q.1)))) X.W := by
            intro a hv
            have hoff : fd.offset = q.1 := by omega
            simp [execOp, ho, hv, Instr.fieldAt, run_underlying hu, h1', Instr.sureAddr, fieldPlace, run_sizeOf' (hC _ _ h3), hne, hoff]
          cases hfx : S.ev x with
          | ptr p off =>
            rw [hfx] at h hx hk
            cases val_some h
            obtain ⟨⟨a, hv⟩, hr⟩ := hx
            refine OpOk.val I (run a hv) ⟨⟨_, rfl⟩, fun cs hc => ?_⟩ hk
            obtain ⟨b, k, h4, h5⟩ := hr cs hc
            rw [hv] at h5
            cases h5
            exact ⟨b, k, h4, by rw [addr_add, Nat.add_assoc]⟩
          | ept p i off =>
            rw [hfx] at h hx hk
            cases val_some h
            obtain ⟨⟨a, hv⟩, hr⟩ := hx
            refine OpOk.val I (run a hv) ⟨⟨_, rfl⟩, fun e xs lv d ver hc => ?_⟩ hk
            obtain ⟨b, k, cap, h4, h5, h6⟩ := hr e xs lv d ver hc
            rw [hv] at h6
            cases h6
            exact ⟨b, k, cap, h4, h5, by rw [addr_add, Nat.add_assoc]⟩
          | vpt tg cs =>
            rw [hfx] at h hx hk
            cases val_some h
            obtain ⟨b, k, hv, hr⟩ := hx
            refine OpOk.val I (run _ hv) ⟨b, k + q.1, by rw [addr_add], fun hl => ?_⟩ ⟨hk.1, okL.drop _ hk.2⟩
            obtain ⟨us, ha, hl⟩ := hr hl
            refine ⟨us.drop q.1, fun j v hj => ?_, hl.drop _⟩
            rw [List.getElem?_drop] at hj
            have := ha _ v hj
            rwa [← Nat.add_assoc] at this
          | _ => rw [hfx] at h; cases h
    | _ => cases h

theorem run_part {t : Nat} {u : Ty} (h : TyS C P t u) {w : World} {us vs : List Value} {off : Nat} (hv : (us.drop off).take u.cells = vs) (hl : vs.length = u.cells) :
    (part t us.toArray off).run P w = .ok (valOf u vs) w := by
  simp only [part, Sem.run_bind, run_isAgg h, Result.andThen_ok]
  cases hu : u.isAgg with
  | true =>
    simp only [if_true, Sem.run_bind, run_sizeOf' h, Result.andThen_ok, Sem.run_pure, valOf, hu]
    congr 2
    apply Array.ext'
    simp only [Array.toList_extract, List.extract_eq_take_drop]
    rw [← hv, Nat.add_sub_cancel_left]
  | false =>
    have hone : u.cells = 1 := by
      have hd := h.desc
      cases u <;> first | rfl | exact hd.elim | cases hu
    obtain ⟨v, rfl⟩ : ∃ v, vs = [v] := by
      match vs, hl with
      | [v], _ => exact ⟨v, rfl⟩
      | [], hl => rw [hone] at hl; cases hl
      | _ :: _ :: _, hl => rw [hone] at hl; simp at hl
    have h0 : us[off]? = some v := by
      have : ((us.drop off).take u.cells)[0]? = some v := by rw [hv]; rfl
      rw [List.getElem?_take, if_pos (by omega), List.getElem?_drop] at this
      simpa using this
    simp [h0, valOf, hu]

theorem op_field (hC : CtxOk C P) {t f : Nat} {x : Operand} (ho : o.op = .field t x f) (I : Inv X D E S tm) (h : evOp C nx S.ev o.op S.ob = some (l, e)) : OpOk P X D E S tm nx o e := by
  rw [ho] at h
  simp only [evOp] at h
  have hx := ev_rel I x
  have hk := ev_ok I x
  cases ht : C.ty t with
  | none => rw [ht] at h; cases h
  | some u =>
    rw [ht] at h
    cases u with
    | st w =>
      cases hf : w.fieldOf f with
      | none => simp only [hf] at h; cases h
      | some q =>
        cases hfx : S.ev x with
        | agg cs =>
          rw [hfx] at hx hk
          simp only [hf, hfx] at h
          split at h
          · rename_i hlen
            cases val_some h
            obtain ⟨us, hv, hr⟩ := hx
            obtain ⟨fs, hu, hfl, _⟩ := (hC t _ ht).desc
            obtain ⟨fd, h1, h2, h3⟩ := hfl.get hf
            have h1' : fs[f]? = some fd := by simpa using h1
            have hr2 := (hr.drop q.1).take q.2.cells
            have hoff : fd.offset = q.1 := by omega
            refine OpOk.val I (v := valOf q.2 ((us.drop q.1).take q.2.cells)) ?_ (valOf_rel (P := P) hr2 hlen (hC _ _ h3).desc) (wrapSt_ok (okL.take _ (okL.drop _ hk)))
            have := run_part (P := P) (hC _ _ h3) (w := X.W) (us := us) (off := q.1) rfl (by rw [hr2.len, hlen])
            simp [execOp, ho, hv, Instr.field, run_underlying hu, h1', asAgg, hoff, this]
          · cases h
        | _ => simp only [hf, hfx] at h; cases h
    | _ => cases h

end
end Go.Evr

namespace Go.Evr
section
variable {C : Ctx} {P : Program}
variable {X : Cx} {D : Nat → Nat → Prop} {E : Env} {S : St} {tm : List Value} {nx : Nat} {o : Oper} {l : List Nat} {e : Eff}

theorem isSl_some {u : Option Ty} (h : isSl u = true) : ∃ e, u = some (.sl e) := by
  cases u with
  | none => cases h
  | some u => cases u <;> first | exact ⟨_, rfl⟩ | cases h

theorem run_len_sl (hC : CtxOk C P) {t : Nat} {e : Ty} (ht : C.ty t = some (.sl e)) (ty : Nat) (a : Option Addr) (n c : Nat) (w : World) (ats : Array Nat) (h0 : ats[0]? = some t) :
    (Builtin.len_ ats ty #[.slice a n c]).run P w = .ok (.int .i64 n) w := by
  obtain ⟨te, hu, _⟩ := (hC t _ ht).desc
  simp [Builtin.len_, h0, run_underlying hu]; rfl

theorem op_len (hC : CtxOk C P) {x : Operand} {ats : Array Nat} {t : Nat} (h0 : ats[0]? = some t) (ho : o.op = .call { callee := .builtin .len, args := #[x], argTypes := ats }) (I : Inv X D E S tm)
    (h : evLen C nx t (S.ev x) S.ob = some (l, e)) : OpOk P X D E S tm nx o e := by
  have hx := ev_rel I x
  have run : ∀ v n, (⟨tm.toArray, []⟩ : Act).eval x = v → (∀ ty, (Builtin.len_ ats ty #[v]).run P X.W = .ok (.int .i64 n) X.W) → e = ⟨.int .i64 n, [], nx, []⟩ → OpOk P X D E S tm nx o e := by
    intro v n hv hr he
    rw [he]
    refine OpOk.val I (v := .int .i64 n) ?_ rfl trivial
    simp [execOp, ho, resolve, invoke, builtin, hv, hr]
  cases hfx : S.ev x with
  | str s =>
    rw [hfx] at h hx
    simp only [evLen] at h
    split at h
    · rename_i ht
      have hu := (hC t _ ht).desc
      refine run _ _ hx (fun ty => ?_) (val_some h)
      simp [Builtin.len_, h0, run_underlying hu]; rfl
    · cases h
  | nsl =>
    rw [hfx] at h hx
    simp only [evLen] at h
    split at h
    · rename_i ht
      obtain ⟨e', ht⟩ := isSl_some ht
      obtain ⟨a, hv⟩ := hx
      exact run _ _ hv (fun ty => run_len_sl hC ht ty a 0 0 X.W ats h0) (val_some h)
    · cases h
  | isl tg e' xs =>
    rw [hfx] at h hx
    simp only [evLen] at h
    split at h
    · rename_i ht
      obtain ⟨e2, ht⟩ := isSl_some ht
      obtain ⟨a, c, hv⟩ := hx.1
      exact run _ _ hv (fun ty => run_len_sl hC ht ty a _ c X.W ats h0) (val_some h)
    · cases h
  | fsl p =>
    rw [hfx] at h hx
    simp only [evLen] at h
    split at h
    · rename_i ht
      obtain ⟨e2, ht⟩ := isSl_some ht
      rw [obF I] at h
      obtain ⟨l1, z, l2, z', h1, h2, he⟩ := Rd.bind_some h
      obtain ⟨y, hy, hh⟩ := Rd.look_some h1
      cases hh
      cases z with
      | box _ => cases h2
      | arr e3 xs lv d ver =>
        cases he
        obtain ⟨a, cap, _, hv⟩ := hx.2 _ _ _ _ _ hy
        exact run _ _ hv (fun ty => run_len_sl hC ht ty a _ _ X.W ats h0) (val_some h2)
    · cases h
  | osl p lo n =>
    rw [hfx] at h hx
    simp only [evLen] at h
    split at h
    · rename_i ht
      obtain ⟨e2, ht⟩ := isSl_some ht
      obtain ⟨a, c, hv⟩ := hx.1
      exact run _ _ hv (fun ty => run_len_sl hC ht ty a _ c X.W ats h0) (val_some h)
    · cases h
  | _ => rw [hfx] at h; cases h

theorem cutTag_zone {own : Nat → Nat → Option (Nat × Bool)} {t : Tag} {b k : Nat} (h : zoneOf own t b k) : zoneOf own (cutTag t) b k :=
  h.imp id fun ⟨q, hq, hw⟩ => ⟨(q.1, none), by rw [hq]; rfl, hw⟩
theorem cutTag_live {ob : Nat → Option Ob} {t : Tag} (h : tagLive ob (cutTag t)) : tagLive ob t := by cases t <;> exact h
theorem cutTag_path {X : Cx} {t : Tag} {e : Ty} {xs : List e.den} {v : Value} : PathOk X (cutTag t) e xs v := by cases t <;> trivial
theorem cutTag_ok {D : Nat → Nat → Prop} {t : Tag} (h : ∀ q, t = some q → D q.1.1 q.1.2) : ∀ q, cutTag t = some q → D q.1.1 q.1.2 := by
  intro q hq
  cases t with
  | none => cases hq
  | some p => cases hq; exact h p rfl

theorem run_indexAddr (hC : CtxOk C P) {t : Nat} {e : Ty} (ht : C.ty t = some (.sl e)) {k : IntKind} {i : Int} {n c b a : Nat} (hi : 0 ≤ i ∧ i < n) (w : World) :
    (Instr.indexAt t (.slice (some ⟨b, a, none⟩) n c) (.int k i)).run P w = .ok (.pointer (some ⟨b, a + i.toNat * e.cells, none⟩)) w := by
  obtain ⟨te, hu, hte⟩ := (hC t _ ht).desc
  simp [Instr.indexAt, asIntOf, run_underlying hu, hi.1, hi.2, run_sizeOf' (hC _ _ hte), addr_add]

theorem inb_lt {i : Int} {n : Nat} {g : List Bool} (h : ∀ b ∈ g, b = true) (hm : inb i (lnat n) ∈ g) : 0 ≤ i ∧ i < n := by
  have := h _ hm
  simp only [inb, Bool.and_eq_true] at this
  exact ⟨of_decide_eq_true this.1, of_decide_eq_true this.2⟩

theorem tagChk_some {t : Tag} {h : Nat → Option Ob} {r : List Nat × Unit} (e : tagChk t h = some r) : tagLive h t := by
  cases t with
  | none => trivial
  | some q => exact (tagOk_some e).1

theorem op_indexAddr (hC : CtxOk C P) {t : Nat} {x i : Operand} (ho : o.op = .indexAddr t x i) (I : Inv X D E S tm) (h : evOp C nx S.ev o.op S.ob = some (l, e)) (g : ∀ b ∈ e.guards, b = true) : OpOk P X D E S tm nx o e := by
  rw [ho] at h
  simp only [evOp] at h
  have hx := ev_rel I x
  have hk := ev_ok I x
  have hi := ev_rel I i
  cases hfi : S.ev i with
  | int ik n =>
    rw [hfi] at h hi
    have ei : (⟨tm.toArray, []⟩ : Act).eval i = .int ik n := hi
    cases hfx : S.ev x with
    | fsl p =>
      rw [hfx] at h hx hk
      simp only [evIndexAddr] at h
      rw [obF I] at h
      obtain ⟨l1, z, l2, z', h1, h2, he⟩ := Rd.bind_some h
      obtain ⟨y, hy, hh⟩ := Rd.look_some h1
      cases hh
      cases z with
      | box _ => cases h2
      | arr e3 xs lv d ver =>
        cases he
        replace h2 : (if C.ty t = some (.sl e3) then valG [inb n (lnat (llen xs))] (.ept p (itn n) 0) nx else Rd.fail) X.ob = some (l2, e) := h2
        split at h2
        · rename_i ht
          cases valG_some h2
          have hb := inb_lt g (List.mem_singleton.2 rfl)
          have hb' : n < xs.length := hb.2
          obtain ⟨a, cap, hl, hv⟩ := hx.2 _ _ _ _ _ hy
          obtain ⟨a', cap', hl', hc, hrow⟩ := (obs' I _ _ hy).rows
          rw [hl] at hl'
          cases hl'
          obtain ⟨b, k, cs, rfl, _⟩ := hrow n.toNat (by omega)
          refine OpOk.val I (v := .pointer (some ⟨b, k + n.toNat * e3.cells, none⟩)) (by simp [execOp, ho, hv, ei, run_indexAddr hC ht (⟨hb.1, hb'⟩ : 0 ≤ n ∧ n < _)]) ⟨⟨_, rfl⟩, fun e4 ys l4 d4 v4 h4 => ?_⟩ hk
          rw [hy] at h4
          cases h4
          exact ⟨b, k, cap, hl, by show n.toNat < _; omega, rfl⟩
        · cases h2
    | osl p lo m =>
      rw [hfx] at h hx hk
      simp only [evIndexAddr] at h
      rw [obF I] at h
      obtain ⟨l1, z, l2, z', h1, h2, he⟩ := Rd.bind_some h
      obtain ⟨y, hy, hh⟩ := Rd.look_some h1
      cases hh
      cases z with
      | box _ => cases h2
      | arr e3 xs lv d ver =>
        cases he
        replace h2 : (if C.ty t = some (.sl e3) then valG [inb n (lnat m)] (.ept p (nadd lo (itn n)) 0) nx else Rd.fail) X.ob = some (l2, e) := h2
        split at h2
        · rename_i ht
          cases valG_some h2
          have hb := inb_lt g (List.mem_singleton.2 rfl)
          have hb' : n < m := hb.2
          obtain ⟨a, cap, hl, hlo, a', hv, hsh⟩ := hx.2 _ _ _ _ _ hy
          obtain ⟨a2, cap2, hl', hc, hrow⟩ := (obs' I _ _ hy).rows
          rw [hl] at hl'
          cases hl'
          obtain ⟨b, k, rfl, rfl⟩ := hsh (by omega)
          refine OpOk.val I (v := .pointer (some ⟨b, k + lo * e3.cells + n.toNat * e3.cells, none⟩)) (by simp [execOp, ho, hv, ei, run_indexAddr hC ht (⟨hb.1, hb'⟩ : 0 ≤ n ∧ n < _)]) ⟨⟨_, rfl⟩, fun e4 ys l4 d4 v4 h4 => ?_⟩ hk
          rw [hy] at h4
          cases h4
          refine ⟨b, k, cap, hl, by show lo + n.toNat < _; omega, ?_⟩
          have : (nadd lo (itn n)) * e3.cells = lo * e3.cells + n.toNat * e3.cells := by unfold nadd itn; rw [Nat.add_mul]
          rw [this, ← Nat.add_assoc]; rfl
        · cases h2
    | isl tg e3 xs =>
      rw [hfx] at h hx hk
      rw [obF I] at h
      obtain ⟨l1, z, l2, z', h1, h2, he⟩ := Rd.bind_some h
      cases he
      have hlive : tagLive X.ob tg := tagChk_some h1
      replace h2 : (if C.ty t = some (.sl e3) then valG [inb n (lnat (llen xs))] (.vpt (cutTag tg) (explode (fun _ => cutTag tg) e3 (lget xs (itn n) e3.zero) 0)) nx else Rd.fail) X.ob = some (l2, e) := h2
      split at h2
      · rename_i ht
        cases valG_some h2
        have hb := inb_lt g (List.mem_singleton.2 rfl)
        have hb' : n < xs.length := hb.2
        obtain ⟨_, hrep, _⟩ := hx
        obtain ⟨a, cap, hv, hc, hrow⟩ := hrep hlive
        cases hv' : (⟨tm.toArray, []⟩ : Act).eval x with
        | slice a2 n2 c2 =>
          rw [hv'] at hv
          simp only [List.cons.injEq, Value.slice.injEq, and_true] at hv
          obtain ⟨rfl, rfl, rfl⟩ := hv
          have hlt : n.toNat < xs.length := by omega
          obtain ⟨b, k, cs, rfl, hr, hat⟩ := hrow n.toNat hlt
          have hget : lget xs (itn n) e3.zero = xs[n.toNat] := lget_eq hlt
          refine OpOk.val I (v := .pointer (some ⟨b, k + n.toNat * e3.cells, none⟩)) (by simp [execOp, ho, hv', ei, run_indexAddr hC ht (⟨hb.1, hb'⟩ : 0 ≤ n ∧ n < _)]) ⟨b, k + n.toNat * e3.cells, rfl, fun _ => ⟨cs, hat.mono fun b k v h1 h2 => ⟨cutTag_zone h1, h2⟩, ?_⟩⟩ ⟨cutTag_ok hk, explode_ok fun _ => cutTag_ok hk⟩
          rw [hget]
          exact explode_rel (src := fun _ => cutTag tg) (fun _ _ _ h => cutTag_zone h) 0 hr fun _ _ _ _ _ _ => cutTag_path
        | _ => rw [hv'] at hv; simp at hv
      · cases h2
    | _ => rw [hfx] at h; cases h
  | _ => rw [hfi] at h; cases h
end
end Go.Evr

namespace Go.Evr
section
variable {C : Ctx} {P : Program}
variable {X : Cx} {D : Nat → Nat → Prop} {E : Env} {S : St} {tm : List Value} {nx : Nat} {o : Oper} {l : List Nat} {e : Eff}

theorem ile_le {a b : Int} {g : List Bool} (h : ∀ b ∈ g, b = true) (hm : ile a b ∈ g) : a ≤ b := of_decide_eq_true (h _ hm)

theorem intOf_some {v : FV} {n : Int} (h : intOfFV v = some n) : ∃ k, v = .int k n := by
  cases v <;> first | (cases h; exact ⟨_, rfl⟩) | cases h

/-- The bounds as they are read off the operands. -/
theorem bnds_some {lo hi : Option Operand} {n : Int} {l h : Int} (I : Inv X D E S tm) (hb : bnds (lo.map S.ev) (hi.map S.ev) n = some (l, h)) :
    ((lo = none ∧ l = 0) ∨ ∃ x k, lo = some x ∧ (⟨tm.toArray, []⟩ : Act).eval x = .int k l) ∧ ((hi = none ∧ h = n) ∨ ∃ x k, hi = some x ∧ (⟨tm.toArray, []⟩ : Act).eval x = .int k h) := by
  unfold bnds at hb
  split at hb
  · rename_i l' h' h1 h2
    cases hb
    refine ⟨?_, ?_⟩
    · cases lo with
      | none => cases h1; exact Or.inl ⟨rfl, rfl⟩
      | some x =>
        obtain ⟨k, hk⟩ := intOf_some h1
        have := ev_rel I x
        rw [hk] at this
        exact Or.inr ⟨x, k, rfl, this⟩
    · cases hi with
      | none => cases h2; exact Or.inl ⟨rfl, rfl⟩
      | some x =>
        obtain ⟨k, hk⟩ := intOf_some h2
        have := ev_rel I x
        rw [hk] at this
        exact Or.inr ⟨x, k, rfl, this⟩
  · cases hb

theorem run_bounds {lo hi : Option Operand} {n : Nat} {l h : Int} (sl : Bool) (len cap : Nat) (hb : ((lo = none ∧ l = 0) ∨ ∃ x k, lo = some x ∧ (⟨tm.toArray, []⟩ : Act).eval x = .int k l) ∧ ((hi = none ∧ h = n) ∨ ∃ x k, hi = some x ∧ (⟨tm.toArray, []⟩ : Act).eval x = .int k h))
    (h0 : 0 ≤ l) (h1 : l ≤ h) (h2 : h ≤ n) (hn : n = len) (hc : len ≤ cap) (w : World) :
    (Instr.sliceBounds sl len cap (lo.map (⟨tm.toArray, []⟩ : Act).eval) (hi.map (⟨tm.toArray, []⟩ : Act).eval) none).run P w = .ok (l.toNat, h.toNat, cap) w := by
  subst hn
  have hcap : h ≤ (cap : Int) := by omega
  obtain ⟨hl, hh⟩ := hb
  have e1 : (Instr.sliceBound (.int .i64 0) 0 .index : Sem Nat) = Instr.sliceBound (.int .i64 0) 0 .index := rfl
  have b1 : ∀ (k : IntKind) (x : Int) (y : Nat) (c : BoundsCode), 0 ≤ x → x ≤ y → (Instr.sliceBound (.int k x) y c).run P w = .ok x.toNat w := by
    intro k x y c hx hy
    simp [Instr.sliceBound, asIntOf, hx, hy]
  rcases hl with ⟨rfl, rfl⟩ | ⟨x, k, rfl, hx⟩ <;> rcases hh with ⟨rfl, rfl⟩ | ⟨y, k', rfl, hy⟩
  · simp [Instr.sliceBounds]
  · simp only [Instr.sliceBounds, Option.map_none, Option.map_some, hy]
    simp [b1 k' h cap _ (by omega) hcap]
  · simp only [Instr.sliceBounds, Option.map_none, Option.map_some, hx]
    simp [b1 k l n _ h0 (by omega)]
  · simp only [Instr.sliceBounds, Option.map_none, Option.map_some, hx, hy]
    have hle : l ≤ ((h.toNat : Nat) : Int) := by omega
    simp [b1 k' h cap _ (by omega) hcap, b1 k l h.toNat _ h0 hle]

theorem run_slice_sl (hC : CtxOk C P) {t : Nat} {e : Ty} (ht : C.ty t = some (.sl e)) {lo hi : Option Operand} {n c : Nat} {l h : Int} {a : Option Addr}
    (hb : ((lo = none ∧ l = 0) ∨ ∃ x k, lo = some x ∧ (⟨tm.toArray, []⟩ : Act).eval x = .int k l) ∧ ((hi = none ∧ h = n) ∨ ∃ x k, hi = some x ∧ (⟨tm.toArray, []⟩ : Act).eval x = .int k h))
    (h0 : 0 ≤ l) (h1 : l ≤ h) (h2 : h ≤ n) (hc : n ≤ c) (w : World) :
    (Instr.sliceAt t (.slice a n c) (lo.map (⟨tm.toArray, []⟩ : Act).eval) (hi.map (⟨tm.toArray, []⟩ : Act).eval) none).run P w =
      .ok (.slice (if c = l.toNat then a else a.map (·.add (l.toNat * e.cells))) (h.toNat - l.toNat) (c - l.toNat)) w := by
  obtain ⟨te, hu, hte⟩ := (hC t _ ht).desc
  have := run_bounds (P := P) (tm := tm) (lo := lo) (hi := hi) (n := n) true n c hb h0 h1 h2 rfl hc w
  simp [Instr.sliceAt, Instr.slice, run_underlying hu, this, run_sizeOf' (hC _ _ hte)]

theorem op_slice (hC : CtxOk C P) {t : Nat} {x : Operand} {lo hi mx : Option Operand} (ho : o.op = .slice t x lo hi mx) (I : Inv X D E S tm) (h : evOp C nx S.ev o.op S.ob = some (l, e)) (g : ∀ b ∈ e.guards, b = true) : OpOk P X D E S tm nx o e := by
  rw [ho] at h
  simp only [evOp] at h
  have hx := ev_rel I x
  have hk := ev_ok I x
  cases mx with
  | some m =>
    simp only [Option.map_some, evSlice] at h
    split at h
    · rename_i hc
      simp only [Bool.and_eq_true] at hc
      obtain ⟨⟨⟨hm, hh⟩, hlo⟩, ht⟩ := hc
      obtain ⟨e', ht⟩ := isSl_some ht
      have hz : ∀ y : Operand, isZero (some (S.ev y)) = true → ∃ k, (⟨tm.toArray, []⟩ : Act).eval y = .int k 0 := by
        intro y hy
        have hr := ev_rel I y
        unfold isZero at hy
        split at hy
        · rename_i k hq; have hq := Option.some.inj hq; rw [hq] at hr; exact ⟨_, hr⟩
        · cases hy
      obtain ⟨km, em⟩ := hz m hm
      obtain ⟨hi', rfl⟩ : ∃ h', hi = some h' := by cases hi with
        | none => cases hh
        | some h' => exact ⟨h', rfl⟩
      obtain ⟨kh, eh⟩ := hz hi' hh
      obtain rfl : lo = none := by cases lo with
        | none => rfl
        | some _ => cases hlo
      have key : ∀ a n c, (⟨tm.toArray, []⟩ : Act).eval x = .slice a n c → e = ⟨.nsl, [], nx, []⟩ → OpOk P X D E S tm nx o e := by
        intro a n c hv he
        rw [he]
        obtain ⟨te, hu, hte⟩ := (hC t _ ht).desc
        refine OpOk.val I (v := .slice a 0 0) ?_ ⟨a, rfl⟩ trivial
        simp [execOp, ho, hv, em, eh, Instr.sliceAt, Instr.slice, Instr.sliceBounds, Instr.sliceBound, asIntOf, run_underlying hu, run_sizeOf' (hC _ _ hte)]
      cases hfx : S.ev x with
      | nsl => rw [hfx] at h hx; obtain ⟨a, hv⟩ := hx; exact key _ _ _ hv (val_some h)
      | isl _ _ _ => rw [hfx] at h hx; obtain ⟨⟨a, c, hv⟩, _⟩ := hx; exact key _ _ _ hv (val_some h)
      | fsl _ => rw [hfx] at h hx; obtain ⟨⟨a, n, c, hv⟩, _⟩ := hx; exact key _ _ _ hv (val_some h)
      | osl _ _ _ => rw [hfx] at h hx; obtain ⟨⟨a, c, hv⟩, _⟩ := hx; exact key _ _ _ hv (val_some h)
      | _ => rw [hfx] at h; cases h
    · cases h
  | none =>
    simp only [Option.map_none, evSlice] at h
    have fin : ∀ f a n c (e' : Ty) (lw hg : Int), C.ty t = some (.sl e') → bnds (lo.map S.ev) (hi.map S.ev) (n : Nat) = some (lw, hg) → (⟨tm.toArray, []⟩ : Act).eval x = .slice a n c → 0 ≤ lw → lw ≤ hg → hg ≤ n → n ≤ c → e = ⟨f, [], nx, e.guards⟩ → f.ok D →
        VRel X f (.slice (if c = lw.toNat then a else a.map (·.add (lw.toNat * e'.cells))) (hg.toNat - lw.toNat) (c - lw.toNat)) → OpOk P X D E S tm nx o e := by
      intro f a n c e' lw hg ht hb hv g1 g2 g3 hc he hd hr
      rw [he]
      refine OpOk.val I ?_ hr hd
      have := run_slice_sl (tm := tm) hC ht (lo := lo) (hi := hi) (a := a) (bnds_some I hb) g1 g2 g3 hc X.W
      simp [execOp, ho, hv, this]
    cases hfx : S.ev x with
    | str s =>
      rw [hfx] at h hx
      have ex : (⟨tm.toArray, []⟩ : Act).eval x = .string s := hx
      simp only [] at h
      split at h
      · rename_i ht
        cases hb : bnds (lo.map S.ev) (hi.map S.ev) (ssize s) with
        | none => simp only [hb] at h; cases h
        | some q =>
          obtain ⟨lw, hg⟩ := q
          simp only [hb] at h
          cases valG_some h
          have g1 := ile_le g (a := 0) (b := lw) (by simp)
          have g2 := ile_le g (a := lw) (b := hg) (by simp)
          have g3 := ile_le g (a := hg) (b := ssize s) (by simp)
          have hu := (hC t _ ht).desc
          refine OpOk.val I (v := .string (s.extract lw.toNat hg.toNat)) ?_ rfl trivial
          have := run_bounds (P := P) (tm := tm) (lo := lo) (hi := hi) (n := s.size) false s.size s.size (bnds_some I hb) g1 g2 g3 rfl (Nat.le_refl _) X.W
          simp [execOp, ho, ex, Instr.sliceAt, Instr.slice, run_underlying hu, this]
      · cases h
    | nsl =>
      rw [hfx] at h hx hk
      obtain ⟨a, hv⟩ := hx
      simp only [] at h
      split at h
      · rename_i ht
        obtain ⟨e', ht⟩ := isSl_some ht
        cases hb : bnds (lo.map S.ev) (hi.map S.ev) 0 with
        | none => simp only [hb] at h; cases h
        | some q =>
          obtain ⟨lw, hg⟩ := q
          simp only [hb] at h
          cases valG_some h
          have g1 : lw = 0 := by have := g (icm .eql lw 0) (by simp); simpa [icm] using this
          have g2 : hg = 0 := by have := g (icm .eql hg 0) (by simp); simpa [icm] using this
          subst g1 g2
          exact fin .nsl a 0 0 e' 0 0 ht hb hv (Int.le_refl _) (Int.le_refl _) (Int.le_refl _) (Nat.le_refl _) rfl trivial ⟨_, rfl⟩
      · cases h
    | isl tg e3 xs =>
      rw [hfx] at h hx hk
      rw [obF I] at h
      obtain ⟨l1, z, l2, z', h1, h2, he⟩ := Rd.bind_some h
      cases he
      have hlive : tagLive X.ob tg := tagChk_some h1
      split at h2
      · rename_i ht
        cases hb : bnds (lo.map S.ev) (hi.map S.ev) (lnat (llen xs)) with
        | none => simp only [hb] at h2; cases h2
        | some q =>
          obtain ⟨lw, hg⟩ := q
          simp only [hb] at h2
          cases valG_some h2
          have g1 := ile_le g (a := 0) (b := lw) (by simp)
          have g2 := ile_le g (a := lw) (b := hg) (by simp)
          have g3 : hg ≤ xs.length := ile_le g (a := hg) (b := lnat (llen xs)) (by simp)
          obtain ⟨_, hrep, _⟩ := hx
          obtain ⟨a, cap, hv, hc, hrow⟩ := hrep hlive
          have hv2 : (⟨tm.toArray, []⟩ : Act).eval x = .slice a xs.length cap := by simpa using hv
          have hlen : (lsub xs (itn lw) (itn (isub hg lw))).length = hg.toNat - lw.toNat := by unfold lsub itn isub; simp; omega
          refine fin _ a xs.length cap e3 lw hg ht hb hv2 g1 g2 g3 hc rfl (cutTag_ok hk) ⟨⟨_, _, by rw [hlen]⟩, fun _ => ⟨_, _, by rw [hlen], by rw [hlen]; omega, fun i hi => ?_⟩, cutTag_path⟩
          rw [hlen] at hi
          obtain ⟨b, k, cs, rfl, hr, hat⟩ := hrow (lw.toNat + i) (by omega)
          refine ⟨b, k + lw.toNat * e3.cells, cs, ?_, ?_, ?_⟩
          · rw [if_neg (by omega)]; simp [addr_add]
          · have : (lsub xs (itn lw) (itn (isub hg lw)))[i] = xs[lw.toNat + i] := by simp [lsub, itn]
            rw [this]; exact hr.zone fun b k => cutTag_zone
          · have e1 : k + lw.toNat * e3.cells + i * e3.cells = k + (lw.toNat + i) * e3.cells := by rw [Nat.add_mul]; omega
            rw [e1]; exact hat.mono fun b k v h1 h2 => ⟨cutTag_zone h1, h2⟩
      · cases h2
    | fsl p =>
      rw [hfx] at h hx hk
      rw [obF I] at h
      obtain ⟨l1, z, l2, z', h1, h2, he⟩ := Rd.bind_some h
      obtain ⟨y, hy, hh⟩ := Rd.look_some h1
      cases hh
      cases z with
      | box _ => cases h2
      | arr e3 xs lv d ver =>
        cases he
        simp only [] at h2
        split at h2
        · rename_i ht
          cases hb : bnds (lo.map S.ev) (hi.map S.ev) (lnat (llen xs)) with
          | none => simp only [hb] at h2; cases h2
          | some q =>
            obtain ⟨lw, hg⟩ := q
            simp only [hb] at h2
            cases valG_some h2
            have g1 := ile_le g (a := 0) (b := lw) (by simp)
            have g2 := ile_le g (a := lw) (b := hg) (by simp)
            have g3 : hg ≤ xs.length := ile_le g (a := hg) (b := lnat (llen xs)) (by simp)
            obtain ⟨a, cap, hl, hv⟩ := hx.2 _ _ _ _ _ hy
            obtain ⟨a2, cap2, hl', hc, hrow⟩ := (obs' I _ _ hy).rows
            rw [hl] at hl'
            cases hl'
            have e0 : itn (isub hg lw) = hg.toNat - lw.toNat := by unfold itn isub; omega
            refine fin _ a xs.length cap e3 lw hg ht hb hv g1 g2 g3 hc rfl hk ⟨⟨_, _, by rw [e0]⟩, fun e4 ys l4 d4 v4 h4 => ?_⟩
            rw [hy] at h4
            cases h4
            obtain ⟨a3, cap3, hl3, _, h3⟩ := obs' I _ _ hy
            rw [hl] at hl3
            cases hl3
            refine ⟨a, cap, hl, by unfold itn isub; omega, _, by rw [e0]; rfl, fun hlt => ?_⟩
            rcases h3 with h3 | ⟨b, k, rfl, _⟩
            · omega
            · refine ⟨b, k, rfl, ?_⟩
              have : lw.toNat < cap := hlt
              rw [if_neg (by omega)]; simp [addr_add, itn]
        · cases h2
    | osl p lo0 n =>
      rw [hfx] at h hx hk
      rw [obF I] at h
      obtain ⟨l1, z, l2, z', h1, h2, he⟩ := Rd.bind_some h
      obtain ⟨y, hy, hh⟩ := Rd.look_some h1
      cases hh
      cases z with
      | box _ => cases h2
      | arr e3 xs lv d ver =>
        cases he
        simp only [] at h2
        split at h2
        · rename_i ht
          cases hb : bnds (lo.map S.ev) (hi.map S.ev) (lnat n) with
          | none => simp only [hb] at h2; cases h2
          | some q =>
            obtain ⟨lw, hg⟩ := q
            simp only [hb] at h2
            cases valG_some h2
            have g1 := ile_le g (a := 0) (b := lw) (by simp)
            have g2 := ile_le g (a := lw) (b := hg) (by simp)
            have g3 : hg ≤ n := ile_le g (a := hg) (b := lnat n) (by simp)
            obtain ⟨a, cap, hl, hlo, a', hv, hsh⟩ := hx.2 _ _ _ _ _ hy
            obtain ⟨a2, cap2, hl', hc, hrow⟩ := (obs' I _ _ hy).rows
            rw [hl] at hl'
            cases hl'
            have e0 : itn (isub hg lw) = hg.toNat - lw.toNat := by unfold itn isub; omega
            refine fin _ a' n (cap - lo0) e3 lw hg ht hb hv g1 g2 g3 (by omega) rfl hk ⟨⟨_, _, by rw [e0]⟩, fun e4 ys l4 d4 v4 h4 => ?_⟩
            rw [hy] at h4
            cases h4
            have e1 : cap - lo0 - lw.toNat = cap - nadd lo0 (itn lw) := by unfold nadd itn; omega
            refine ⟨a, cap, hl, by unfold nadd itn isub; omega, _, by rw [e0, e1], fun hlt => ?_⟩
            have hlt' : lo0 + lw.toNat < cap := hlt
            obtain ⟨b, k, rfl, rfl⟩ := hsh (by omega)
            refine ⟨b, k, rfl, ?_⟩
            rw [if_neg (by omega)]
            simp only [Option.map_some, addr_add]
            unfold nadd itn
            rw [Nat.add_mul, Nat.add_assoc]
        · cases h2
    | _ => rw [hfx] at h; cases h

/-! ### Conversions -/
theorem strBytes_cells (s : ByteArray) : (strBytes s).map (Value.int .u8) = (s.data.map fun b => Value.int .u8 b.toNat).toList := by
  unfold strBytes; simp

theorem bytesRows {Z : Zone} {W : World} {xs : List Int} {a : Option Addr} {n c : Nat} (h : Rep Z W (.sl (.int .u8)) xs [.slice a n c]) :
    n = xs.length ∧ ∀ j x, xs[j]? = some x → ∃ b k, a = some ⟨b, k, none⟩ ∧ W.cell? ⟨b, k + j, none⟩ = some (.int .u8 x) := by
  obtain ⟨a', c', hv, _, hr⟩ := h
  simp only [List.cons.injEq, Value.slice.injEq, and_true] at hv
  obtain ⟨rfl, rfl, rfl⟩ := hv
  refine ⟨rfl, fun j x hj => ?_⟩
  obtain ⟨hjl, rfl⟩ := List.getElem?_eq_some_iff.1 hj
  obtain ⟨b, k, cs, ha, hrep, hat⟩ := hr j hjl
  cases hrep
  have := (hat 0 _ rfl).2
  simp [Ty.cells] at this
  exact ⟨b, k, ha, this⟩

theorem foldBytes : ∀ (l : List Int) (acc : ByteArray), l.foldl (fun r n => r.push (UInt8.ofNat n.toNat)) acc = ⟨acc.data ++ (l.map fun x => UInt8.ofNat x.toNat).toArray⟩
  | [], acc => by simp
  | x :: l, acc => by
    rw [List.foldl_cons, foldBytes l]
    simp [ByteArray.push]

theorem run_bytesToStr {Z : Zone} {W : World} {xs : List Int} {a : Option Addr} {n c : Nat} (h : Rep Z W (.sl (.int .u8)) xs [.slice a n c]) : (Conv.bytesToString (.slice a n c)).run P W = .ok (.string (bytesStr xs)) W := by
  obtain ⟨rfl, hr⟩ := bytesRows h
  cases a with
  | none =>
    have : xs = [] := by
      cases xs with
      | nil => rfl
      | cons x xs => obtain ⟨b, k, ha, _⟩ := hr 0 x rfl; cases ha
    subst this
    simp [Conv.bytesToString]; rfl
  | some ad =>
    have hl := run_loadCells_list (P := P) W ad (xs.map (Value.int .u8)) (fun j v hj => by
      rw [List.getElem?_map] at hj
      cases hx : xs[j]? with
      | none => rw [hx] at hj; cases hj
      | some x =>
        rw [hx] at hj; cases hj
        obtain ⟨b, k, ha, hc⟩ := hr j x hx
        cases ha
        rw [addr_add]; exact hc)
    rw [List.length_map] at hl
    rw [Go.run_bytesToString W ad xs.length c xs hl, foldBytes]
    simp [bytesStr]

theorem op_convert (hC : CtxOk C P) {s d : Nat} {x : Operand} (ho : o.op = .convert s d x) (I : Inv X D E S tm) (h : evOp C nx S.ev o.op S.ob = some (l, e)) (hb : ¬ (C.ty s = some .str ∧ C.ty d = some (.sl (.int .u8)))) : OpOk P X D E S tm nx o e := by
  rw [ho] at h
  simp only [evOp] at h
  have hx := ev_rel I x
  have fin : ∀ f v, e = ⟨f, [], nx, []⟩ → (convert s d ((⟨tm.toArray, []⟩ : Act).eval x)).run P X.W = .ok v X.W → VRel X f v → f.ok D → OpOk P X D E S tm nx o e := by
    intro f v he h1 h2 h3
    rw [he]
    exact OpOk.val I (by simp [execOp, ho, h1]) h2 h3
  have slc : (∀ k n, S.ev x ≠ .int k n) → (∀ q, S.ev x ≠ .str q) → (if C.ty s = some (.sl (.int .u8)) ∧ C.ty d = some .str then (readSl (.int .u8) (S.ev x)).bind fun xs => val (.str (bytesStr xs)) nx else Rd.fail) S.ob = some (l, e) → OpOk P X D E S tm nx o e := by
    intro _ _ h
    split at h
    · rename_i hc
      obtain ⟨hs, hd⟩ := hc
      rw [obF I] at h
      obtain ⟨l1, z, l2, z', h1, h2, he⟩ := Rd.bind_some h
      cases he
      have hrep := readSl_rep (obs' I) h1 hx
      obtain ⟨te, hu, hte⟩ := (hC s _ hs).desc
      have dte := (hC te _ hte).desc
      have dd := (hC d _ hd).desc
      have hrep' := hrep
      obtain ⟨a, c, hv, _⟩ := hrep'
      have hv2 : (⟨tm.toArray, []⟩ : Act).eval x = .slice a z.length c := by simpa using hv
      refine fin _ (.string (bytesStr z)) (val_some h2) ?_ rfl trivial
      rw [hv2, run_convert_bytes_string X.W s d te a _ c hu dte dd]
      rw [hv2] at hrep
      exact run_bytesToStr hrep
    · cases h
  cases hfx : S.ev x with
  | int k0 n =>
    rw [hfx] at h hx
    have ex : (⟨tm.toArray, []⟩ : Act).eval x = .int k0 n := hx
    simp only [evConv] at h
    split at h
    · rename_i hs
      cases hd : tyInt (C.ty d) with
      | none => simp only [hd] at h; cases h
      | some k =>
        simp only [hd] at h
        have hd' : C.ty d = some (.int k) := by
          unfold tyInt at hd
          split at hd
          · rename_i k' hq; cases hd; exact hq
          · cases hd
        obtain ⟨ks, hs'⟩ : ∃ ks, C.ty s = some (.int ks) := by
          unfold tyInt at hs
          split at hs
          · rename_i k' hq; exact ⟨k', hq⟩
          · cases hs
        have ds := (hC s _ hs').desc
        have dd := (hC d _ hd').desc
        refine fin _ (.int k (k.wrap n)) (val_some h) ?_ rfl trivial
        rw [ex]
        simp [convert, run_underlying ds, run_underlying dd, Conv.intToInt]
    · cases h
  | str q =>
    rw [hfx] at h hx
    have ex : (⟨tm.toArray, []⟩ : Act).eval x = .string q := hx
    simp only [evConv] at h
    split at h
    · rename_i hs
      split at h
      · rename_i hd
        have ds := (hC s _ hs).desc
        have dd := (hC d _ hd).desc
        refine fin _ (.string q) (val_some h) ?_ rfl trivial
        rw [ex]
        simp [convert, run_underlying ds, run_underlying dd]
      · split at h
        · rename_i hd; exact absurd ⟨hs, hd⟩ hb
        · cases h
    · cases h
  | nsl => exact slc (by simp [hfx]) (by simp [hfx]) (by rw [hfx] at h ⊢; exact h)
  | isl _ _ _ => exact slc (by simp [hfx]) (by simp [hfx]) (by rw [hfx] at h ⊢; exact h)
  | fsl _ => exact slc (by simp [hfx]) (by simp [hfx]) (by rw [hfx] at h ⊢; exact h)
  | osl _ _ _ => exact slc (by simp [hfx]) (by simp [hfx]) (by rw [hfx] at h ⊢; exact h)
  | bad => exact slc (by simp [hfx]) (by simp [hfx]) (by rw [hfx] at h ⊢; exact h)
  | bool _ => exact slc (by simp [hfx]) (by simp [hfx]) (by rw [hfx] at h ⊢; exact h)
  | ptr _ _ => exact slc (by simp [hfx]) (by simp [hfx]) (by rw [hfx] at h ⊢; exact h)
  | ept _ _ _ => exact slc (by simp [hfx]) (by simp [hfx]) (by rw [hfx] at h ⊢; exact h)
  | vpt _ _ => exact slc (by simp [hfx]) (by simp [hfx]) (by rw [hfx] at h ⊢; exact h)
  | clo _ _ _ => exact slc (by simp [hfx]) (by simp [hfx]) (by rw [hfx] at h ⊢; exact h)
  | nilp => exact slc (by simp [hfx]) (by simp [hfx]) (by rw [hfx] at h ⊢; exact h)
  | agg _ => exact slc (by simp [hfx]) (by simp [hfx]) (by rw [hfx] at h ⊢; exact h)
  | tup _ => exact slc (by simp [hfx]) (by simp [hfx]) (by rw [hfx] at h ⊢; exact h)
  | nilb _ => exact slc (by simp [hfx]) (by simp [hfx]) (by rw [hfx] at h ⊢; exact h)
end
end Go.Evr

namespace Go.Evr
section
variable {C : Ctx} {P : Program}
variable {X : Cx} {D : Nat → Nat → Prop} {E : Env} {S : St} {tm : List Value} {nx : Nat} {o : Oper} {l : List Nat} {e : Eff}

theorem zeroCells_rel {X : Cx} : ∀ {u : Ty}, u ≠ .ref → (∀ w, u = .st w → True) → LRel X (zeroCells u) (zeroV u) := by
  intro u
  induction u with
  | int k => intro _ _; exact ⟨_, _, rfl, rfl, rfl⟩
  | bool => intro _ _; exact ⟨_, _, rfl, rfl, rfl⟩
  | str => intro _ _; exact ⟨_, _, rfl, rfl, rfl⟩
  | sl e => intro _ _; exact ⟨_, _, rfl, ⟨none, rfl⟩, rfl⟩
  | unit => intro _ _; exact rfl
  | pair a b iha ihb =>
    intro _ _
    refine LRel.append ?_ ?_
    · by_cases h : a = .ref
      · subst h; exact ⟨_, _, rfl, Or.inl rfl, rfl⟩
      · exact iha h fun _ _ => trivial
    · by_cases h : b = .ref
      · subst h; exact ⟨_, _, rfl, Or.inl rfl, rfl⟩
      · exact ihb h fun _ _ => trivial
  | st t ih =>
    intro _ _
    by_cases h : t = .ref
    · subst h; exact ⟨_, _, rfl, Or.inl rfl, rfl⟩
    · exact ih h fun _ _ => trivial
  | ref => intro h; exact absurd rfl h

theorem zeroCells_ok {D : Nat → Nat → Prop} : ∀ {u : Ty}, okL D (zeroCells u)
  | .int _ => ⟨trivial, trivial⟩
  | .bool => ⟨trivial, trivial⟩
  | .str => ⟨trivial, trivial⟩
  | .sl _ => ⟨trivial, trivial⟩
  | .unit => trivial
  | .pair _ _ => okL.append zeroCells_ok zeroCells_ok
  | .st t => zeroCells_ok (u := t)
  | .ref => ⟨trivial, trivial⟩

/-- The zero value of a kind: its cells. -/
theorem zero_cells {u : Ty} {z : Value} (h : ZeroOk u z) (hd : ∃ t, DescOk C P t u) : ∃ us, z.cells = us.toArray ∧ LRel X (zeroCells u) us := by
  obtain ⟨t, hd⟩ := hd
  cases u with
  | int k => cases h; exact ⟨_, rfl, _, _, rfl, rfl, rfl⟩
  | bool => cases h; exact ⟨_, rfl, _, _, rfl, rfl, rfl⟩
  | str => cases h; exact ⟨_, rfl, _, _, rfl, rfl, rfl⟩
  | sl e => cases h; exact ⟨_, rfl, _, _, rfl, ⟨none, rfl⟩, rfl⟩
  | unit => exact hd.elim
  | pair _ _ => exact hd.elim
  | st w => cases h; exact ⟨_, rfl, zeroCells_rel (u := .st w) (by simp) fun _ _ => trivial⟩
  | ref => rcases h with rfl | rfl <;> exact ⟨_, rfl, _, _, rfl, by simp [VRel], rfl⟩

theorem run_newRow (w : World) (t : Nat) (cs : Array Value) : (newRow t cs).run P w = .ok ⟨w.heap.size, 0, none⟩ (w.alloc (.cells cs t)) := rfl

theorem op_alloc (hC : CtxOk C P) {t : Nat} (ho : o.op = .alloc t) (I : Inv X D E S tm) (hn : ¬ D nx 0) (h : evOp C nx S.ev o.op S.ob = some (l, e)) : OpOk P X D E S tm nx o e := by
  rw [ho] at h
  simp only [evOp] at h
  cases ht : C.ty t with
  | none => rw [ht] at h; cases h
  | some u =>
    rw [ht] at h
    cases h
    obtain ⟨z, hz, hzo⟩ := run_zeroValue' (hC t u ht) X.W
    obtain ⟨us, hc, hr⟩ := zero_cells (X := X) (P := P) (C := C) hzo ⟨t, (hC t u ht).desc⟩
    refine ⟨_, _, _, ?_, Or.inl rfl, Done.box I hn hr zeroCells_ok t⟩
    simp [execOp, ho, Instr.alloc, hz, newVar, hc, run_newRow]

theorem op_box (hC : CtxOk C P) {t : Nat} {x : Operand} (ho : o.op = .box t x) (I : Inv X D E S tm) (hn : ¬ D nx 0) (h : evOp C nx S.ev o.op S.ob = some (l, e)) : OpOk P X D E S tm nx o e := by
  rw [ho] at h
  simp only [evOp] at h
  have hx := ev_rel I x
  have hk := ev_ok I x
  cases ht : C.ty t with
  | none => rw [ht] at h; cases h
  | some u =>
    cases hc : (S.ev x).cells? with
    | none => rw [ht, hc] at h; cases h
    | some cs =>
      rw [ht, hc] at h
      simp only [] at h
      split at h
      · cases h
        have hr := cells_rel hc hx
        have := Done.box (nx := nx) (g := []) I hn hr (cells_ok hc hk) t
        refine ⟨_, _, _, ?_, Or.inl rfl, this⟩
        simp [execOp, ho, Instr.box, newVar, run_newRow]
      · cases h

theorem foldInt_some {f : Int → Int → Int} {k : IntKind} : ∀ {vs : List FV} {us : List Value} {a n : Int}, foldInt f k a vs = some n → LRel X vs us → ∃ ns : List Int, us = ns.map (Value.int k) ∧ n = ns.foldl f a
  | [], _, a, n, h, hr => by cases h; cases hr; exact ⟨[], rfl, rfl⟩
  | .int k' m :: vs, _, a, n, h, hr => by
    obtain ⟨v, us, rfl, hv, hr⟩ := hr
    simp only [foldInt] at h
    split at h
    · rename_i hk; subst hk
      obtain ⟨ns, rfl, hn⟩ := foldInt_some h hr
      exact ⟨m :: ns, by cases hv; rfl, hn⟩
    · cases h
  | .bad :: _, _, _, _, h, _ => by cases h
  | .bool _ :: _, _, _, _, h, _ => by cases h
  | .str _ :: _, _, _, _, h, _ => by cases h
  | .nsl :: _, _, _, _, h, _ => by cases h
  | .isl _ _ _ :: _, _, _, _, h, _ => by cases h
  | .fsl _ :: _, _, _, _, h, _ => by cases h
  | .osl _ _ _ :: _, _, _, _, h, _ => by cases h
  | .ptr _ _ :: _, _, _, _, h, _ => by cases h
  | .ept _ _ _ :: _, _, _, _, h, _ => by cases h
  | .vpt _ _ :: _, _, _, _, h, _ => by cases h
  | .clo _ _ _ :: _, _, _, _, h, _ => by cases h
  | .nilp :: _, _, _, _, h, _ => by cases h
  | .agg _ :: _, _, _, _, h, _ => by cases h
  | .tup _ :: _, _, _, _, h, _ => by cases h
  | .nilb _ :: _, _, _, _, h, _ => by cases h

theorem run_maxs (w : World) (k : IntKind) : ∀ (ns : List Int) (a : Int), ((ns.map (Value.int k)).foldlM Builtin.max2 (.int k a) : Sem Value).run P w = .ok (.int k (ns.foldl imax a)) w
  | [], a => by simp
  | n :: ns, a => by
    have := run_maxs w k ns (imax a n)
    simp only [List.map_cons, List.foldlM_cons, List.foldl_cons, Sem.run_bind]
    simp only [Builtin.max2, Sem.run_pure, Result.andThen_ok]
    exact this
theorem run_mins (w : World) (k : IntKind) : ∀ (ns : List Int) (a : Int), ((ns.map (Value.int k)).foldlM Builtin.min2 (.int k a) : Sem Value).run P w = .ok (.int k (ns.foldl imin a)) w
  | [], a => by simp
  | n :: ns, a => by
    have := run_mins w k ns (imin a n)
    simp only [List.map_cons, List.foldlM_cons, List.foldl_cons, Sem.run_bind]
    simp only [Builtin.min2, Sem.run_pure, Result.andThen_ok]
    exact this

theorem evs_rel (I : Inv X D E S tm) : ∀ l : List Operand, LRel X (l.map S.ev) (l.map (⟨tm.toArray, []⟩ : Act).eval) ∧ okL D (l.map S.ev)
  | [] => ⟨rfl, trivial⟩
  | x :: l => ⟨⟨_, _, rfl, ev_rel I x, (evs_rel I l).1⟩, ev_ok I x, (evs_rel I l).2⟩

theorem op_max {args : Array Operand} {ats : Array Nat} {k : IntKind} {a n : Int} {vs : List FV} (hv : args.toList.map S.ev = .int k a :: vs) (hf : foldInt imax k a vs = some n) (ho : o.op = .call { callee := .builtin .max, args := args, argTypes := ats })
    (I : Inv X D E S tm) : OpOk P X D E S tm nx o ⟨.int k n, [], nx, []⟩ := by
  have hr := (evs_rel I args.toList).1
  rw [hv] at hr
  obtain ⟨v, us, he, h1, h2⟩ := hr
  cases h1
  obtain ⟨ns, rfl, rfl⟩ := foldInt_some hf h2
  refine OpOk.val I (v := .int k (ns.foldl imax a)) ?_ rfl trivial
  have hm : args.map (⟨tm.toArray, []⟩ : Act).eval = (Value.int k a :: ns.map (Value.int k)).toArray := by rw [← he, ← Array.toList_map, Array.toArray_toList]
  have := run_maxs (P := P) X.W k ns a
  simp [execOp, ho, resolve, invoke, builtin, Builtin.max_, hm, this]
theorem op_min {args : Array Operand} {ats : Array Nat} {k : IntKind} {a n : Int} {vs : List FV} (hv : args.toList.map S.ev = .int k a :: vs) (hf : foldInt imin k a vs = some n) (ho : o.op = .call { callee := .builtin .min, args := args, argTypes := ats })
    (I : Inv X D E S tm) : OpOk P X D E S tm nx o ⟨.int k n, [], nx, []⟩ := by
  have hr := (evs_rel I args.toList).1
  rw [hv] at hr
  obtain ⟨v, us, he, h1, h2⟩ := hr
  cases h1
  obtain ⟨ns, rfl, rfl⟩ := foldInt_some hf h2
  refine OpOk.val I (v := .int k (ns.foldl imin a)) ?_ rfl trivial
  have hm : args.map (⟨tm.toArray, []⟩ : Act).eval = (Value.int k a :: ns.map (Value.int k)).toArray := by rw [← he, ← Array.toList_map, Array.toArray_toList]
  have := run_mins (P := P) X.W k ns a
  simp [execOp, ho, resolve, invoke, builtin, Builtin.min_, hm, this]

/-! ### build -/
theorem foldSet : ∀ (vs : List Value) (off n : Nat) (cells : Array Value), off + n + vs.length ≤ cells.size →
    ((vs.zipIdx n).foldl (fun cs (c, j) => cs.setIfInBounds (off + j) c) cells).toList = cells.toList.take (off + n) ++ vs ++ cells.toList.drop (off + n + vs.length)
  | [], off, n, cells, _ => by simp
  | v :: vs, off, n, cells, h => by
    simp only [List.length_cons] at h
    rw [List.zipIdx_cons, List.foldl_cons]
    have ih := foldSet vs off (n + 1) (cells.setIfInBounds (off + n) v) (by simp; omega)
    rw [ih]
    simp only [Array.toList_setIfInBounds]
    have hlt : off + n < cells.toList.length := by simp; omega
    rw [show off + (n + 1) = off + n + 1 by omega, List.take_succ_eq_append_getElem (by simp; omega), List.take_set, List.getElem_set_self, List.drop_set_of_lt (by omega)]
    rw [List.set_eq_of_length_le (by simp; omega)]
    simp [Nat.add_assoc, Nat.add_comm 1]

theorem LRel.splice {cs ws : List FV} {us vs : List Value} (off : Nat) (h : LRel X cs us) (k : LRel X ws vs) : LRel X (splice cs off ws) (us.take off ++ vs ++ us.drop (off + vs.length)) := by
  have := k.len
  unfold Go.Evr.splice
  rw [this]
  exact ((h.take off).append k).append (h.drop _)
theorem okL.splice {cs ws : List FV} (off : Nat) (h : okL D cs) (k : okL D ws) : okL D (splice cs off ws) := by
  unfold Go.Evr.splice
  exact ((h.take off).append k).append (h.drop _)

theorem fieldOf_lt : ∀ {w : Ty} {i : Nat} {q : Nat × Ty}, w.fieldOf i = some q → q.1 + q.2.cells ≤ w.cells
  | .pair a b, 0, q, h => by cases h; simp [Ty.cells]
  | .pair a b, i + 1, q, h => by
    simp only [Ty.fieldOf] at h
    cases hb : b.fieldOf i with
    | none => rw [hb] at h; cases h
    | some r =>
      rw [hb] at h; cases h
      have := fieldOf_lt hb
      simp only [Ty.cells]; omega
  | .unit, _, _, h => by cases h
  | .int _, _, _, h => by cases h
  | .bool, _, _, h => by cases h
  | .str, _, _, h => by cases h
  | .sl _, _, _, h => by cases h
  | .st _, _, _, h => by cases h
  | .ref, _, _, h => by cases h

/-- Parts as they are reckoned with, and as they are. -/
def PRel (X : Cx) : List (Nat × FV) → List (Nat × Value) → Prop
  | [], vs => vs = []
  | (i, f) :: ps, vs => ∃ v us, vs = (i, v) :: us ∧ VRel X f v ∧ PRel X ps us

theorem fill_lay {w : Ty} {place : Nat → Option (Nat × Nat)} (hp : ∀ i q, w.fieldOf i = some q → place i = some (q.1, q.2.cells)) :
    ∀ {ps : List (Nat × FV)} {vs : List (Nat × Value)} {cs cs' : List FV} {us : List Value}, layParts w ps cs = some cs' → PRel X ps vs → LRel X cs us → us.length = w.cells → okL D cs → (∀ p ∈ ps, p.2.ok D) →
      ∃ us', Instr.fill place us.toArray vs = some us'.toArray ∧ LRel X cs' us' ∧ okL D cs'
  | [], vs, cs, cs', us, h, hr, hc, _, hk, _ => by cases h; cases hr; exact ⟨us, rfl, hc, hk⟩
  | (i, f) :: ps, vs, cs, cs', us, h, hr, hc, hl, hk, hpk => by
    obtain ⟨v, vs', rfl, hv, hr⟩ := hr
    simp only [layParts] at h
    split at h
    · rename_i off u ws hfi hcs
      split at h
      · rename_i hwl
        have hvr := cells_rel hcs hv
        have hpl := hp i _ hfi
        have hlt := fieldOf_lt hfi
        simp only [] at hpl hlt
        have hsz : v.cells.size = u.cells := by have := hvr.len; simpa [hwl] using this
        have hf := foldSet v.cells.toList off 0 us.toArray (by simp [hsz]; omega)
        obtain ⟨us', h1, h2, h3⟩ := fill_lay hp h hr (hc.splice off hvr) (by simp [hsz]; omega) (hk.splice off (cells_ok hcs (hpk _ (List.mem_cons_self ..)))) (fun p hp' => hpk p (List.mem_cons_of_mem _ hp'))
        refine ⟨us', ?_, h2, h3⟩
        simp only [Instr.fill, hpl]
        rw [if_neg (by simp [hsz]; omega)]
        rw [← h1]
        congr 1
        apply Array.ext'
        have := hf
        simp only [Nat.add_zero] at this
        rw [← Array.foldl_toList, Array.toList_zipIdx]
        simpa using this
      · cases h
    · cases h

theorem parts_rel (I : Inv X D E S tm) : ∀ l : List (Nat × Operand), PRel X (l.map fun p => (p.1, S.ev p.2)) (l.map fun p => (p.1, (⟨tm.toArray, []⟩ : Act).eval p.2)) ∧ ∀ p ∈ l.map (fun p => (p.1, S.ev p.2)), p.2.ok D
  | [] => ⟨rfl, by simp⟩
  | (i, x) :: l => by
    obtain ⟨h1, h2⟩ := parts_rel I l
    refine ⟨⟨_, _, rfl, ev_rel I x, h1⟩, fun p hp => ?_⟩
    rcases List.mem_cons.1 hp with rfl | hp
    · exact ev_ok I x
    · exact h2 p hp

theorem Flds.places (hC : CtxOk C P) (w : World) : ∀ {u : Ty} {fs : List Field} {off : Nat}, Flds C u fs off →
    ∃ l : List (Nat × Nat), (fs.mapM (fun f => do pure (f.offset, ← sizeOf f.type)) : Sem (List (Nat × Nat))).run P w = .ok l w ∧ ∀ i q, u.fieldOf i = some q → l[i]? = some (off + q.1, q.2.cells)
  | .unit, [], _, _ => ⟨[], by simp, fun i q h => by cases h⟩
  | .pair a b, f :: fs, off, h => by
    obtain ⟨h1, h2, _, h4⟩ := h
    obtain ⟨l, hl, hq⟩ := Flds.places hC w h4
    refine ⟨(f.offset, a.cells) :: l, ?_, fun i q hi => ?_⟩
    · simp only [List.mapM_cons, Sem.run_bind, run_sizeOf' (hC _ _ h2), Result.andThen_ok, Sem.run_pure, hl]
    · cases i with
      | zero => cases hi; simp [h1]
      | succ i =>
        simp only [Ty.fieldOf] at hi
        cases hb : b.fieldOf i with
        | none => rw [hb] at hi; cases hi
        | some r =>
          rw [hb] at hi; cases hi
          have := hq i _ hb
          simp only [List.getElem?_cons_succ, this]
          simp only [Nat.add_assoc]
  | .unit, _ :: _, _, h => h.elim
  | .pair _ _, [], _, h => h.elim
  | .int _, _, _, h => h.elim
  | .bool, _, _, h => h.elim
  | .str, _, _, h => h.elim
  | .sl _, _, _, h => h.elim
  | .st _, _, _, h => h.elim
  | .ref, _, _, h => h.elim

theorem zeroV_len : ∀ {u : Ty}, (zeroV u).length = u.cells
  | .int _ => rfl
  | .bool => rfl
  | .str => rfl
  | .sl _ => rfl
  | .unit => rfl
  | .pair a b => by simp [zeroV, Ty.cells, zeroV_len]
  | .st t => zeroV_len (u := t)
  | .ref => rfl

theorem op_build (hC : CtxOk C P) {t : Nat} {parts : Array (Nat × Operand)} (ho : o.op = .build t parts) (I : Inv X D E S tm) (h : evOp C nx S.ev o.op S.ob = some (l, e)) : OpOk P X D E S tm nx o e := by
  rw [ho] at h
  simp only [evOp] at h
  cases ht : C.ty t with
  | none => rw [ht] at h; cases h
  | some u =>
    rw [ht] at h
    cases u with
    | st w =>
      simp only [] at h
      cases hl : layParts w (parts.toList.map fun p => (p.1, S.ev p.2)) (zeroCells w) with
      | none => simp only [hl] at h; cases h
      | some cs =>
        simp only [hl] at h
        split at h
        · cases val_some h
          obtain ⟨i, z, hi, hsz, hz, hzo, _⟩ := (hC t _ ht).info
          obtain ⟨fs, hu, hfl, _⟩ := (hC t _ ht).desc
          obtain ⟨pl, hpl, hq⟩ := hfl.places hC X.W
          have hp := parts_rel I parts.toList
          have hzr : LRel X (zeroCells w) (zeroV w) := by
            by_cases hw : w = .ref
            · subst hw; exact ⟨_, _, rfl, Or.inl rfl, rfl⟩
            · exact zeroCells_rel hw fun _ _ => trivial
          obtain ⟨us', h1, h2, h3⟩ := fill_lay (X := X) (D := D) (place := fun i => pl.toArray[i]?) (fun i q hi => by have := hq i q hi; simpa using this) hl hp.1 hzr zeroV_len zeroCells_ok hp.2
          refine OpOk.val I (v := .agg us'.toArray) ?_ ⟨us', rfl, h2⟩ h3
          have hz' : z = .agg (zeroV w).toArray := hzo
          have hm : (fs.mapM (fun f => do pure (f.offset, ← sizeOf f.type)) : Sem (Array (Nat × Nat))).run P X.W = .ok pl.toArray X.W := by
            rw [Array.mapM_eq_mapM_toList, Sem.run_map, hpl]
            rfl
          have hpm : (parts.map fun p => (p.1, (⟨tm.toArray, []⟩ : Act).eval p.2)).toList = parts.toList.map fun p => (p.1, (⟨tm.toArray, []⟩ : Act).eval p.2) := by simp
          have hzc : (Value.agg (zeroV w).toArray).cells = (zeroV w).toArray := rfl
          have hzv : (zeroValue t).run P X.W = .ok (.agg (zeroV w).toArray) X.W := by simp [zeroValue, typeInfo, hi, hz, hz']
          have hb : (Instr.build t (parts.map fun p => (p.1, (⟨tm.toArray, []⟩ : Act).eval p.2))).run P X.W = .ok (.agg us'.toArray) X.W := by
            simp only [Instr.build, Sem.run_bind, hzv, run_underlying hu, Result.andThen_ok, hm, hzc, hpm, h1]
            rfl
          simp only [execOp, ho, Sem.run_bind]
          rw [show (parts.map fun x => match x with | (i, x) => (i, (⟨tm.toArray, []⟩ : Act).eval x)) = parts.map fun p => (p.1, (⟨tm.toArray, []⟩ : Act).eval p.2) from rfl, hb]
          rfl
        · cases h
    | _ => cases h
end
end Go.Evr

namespace Go.Evr
section
variable {C : Ctx} {P : Program}
variable {X : Cx} {D : Nat → Nat → Prop} {E : Env} {S : St} {tm : List Value} {nx : Nat} {o : Oper} {l : List Nat} {e : Eff}

/-- What some objects own. -/
def ownZ (own : Nat → Nat → Option (Nat × Bool)) (ids : List Nat) : Zone := fun b k => ∃ o m, o ∈ ids ∧ own b k = some (o, m)
theorem ownZ.mono {own : Nat → Nat → Option (Nat × Bool)} {l l' : List Nat} (h : ∀ o ∈ l, o ∈ l') (b k : Nat) : ownZ own l b k → ownZ own l' b k := fun ⟨o, m, ho, hw⟩ => ⟨o, m, h o ho, hw⟩

theorem mul_lt_of {j lo cap m : Nat} (hj : j < (cap - lo) * m) (hl : lo ≤ cap) : lo * m + j < cap * m := by
  have : (cap - lo) * m + lo * m = cap * m := by rw [← Nat.add_mul, Nat.sub_add_cancel hl]
  omega

theorem nodupB_iff : ∀ {l : List Nat}, nodupB l = true ↔ l.Nodup
  | [] => by simp [nodupB]
  | a :: l => by simp [nodupB, nodupB_iff (l := l)]

/-- Live objects whose arrays are theirs. -/
def LiveD (X : Cx) (ids : List Nat) : Prop := ∀ o ∈ ids, ∃ e xs v, X.ob o = some (.arr e xs true true v)

theorem ownSl_own (OB : ∀ o x, X.ob o = some x → ObRel X o x) {e : Ty} {f : FV} {v : Value} {l : List Nat} {xs : List e.den} {ids : List Nat}
    (h : ownSl e f X.ob = some (l, (xs, ids))) (hv : VRel X f v) : Own (ownZ X.own ids) X.W (.sl e) xs [v] ∧ LiveD X ids := by
  cases f with
  | nsl => cases h; obtain ⟨a, rfl⟩ := hv; exact ⟨⟨a, 0, rfl, Nat.le_refl _, Or.inl rfl⟩, by simp [LiveD]⟩
  | fsl p =>
    obtain ⟨l1, x, l2, z, h1, h2, he⟩ := Rd.bind_some h
    obtain ⟨y, hy, hh⟩ := Rd.look_some h1
    cases hh
    cases x with
    | box _ => cases h2
    | arr e' ys lv d ver =>
      cases lv <;> cases d <;> first | (cases h2; done) | skip
      obtain ⟨l3, w, l4, w', h3, h4, he'⟩ := Rd.bind_some h2
      cases h4
      cases he'
      cases he
      obtain ⟨z, hz, hh⟩ := Rd.of_some h3
      cases hh
      obtain ⟨rfl, hq⟩ := castSl hz
      cases hq
      obtain ⟨a, cap, hl, rfl⟩ := hv.2 _ _ _ _ _ hy
      obtain ⟨a', cap', hl', hc, h5⟩ := OB _ _ hy
      rw [hl] at hl'
      cases hl'
      refine ⟨⟨a, cap, rfl, hc, h5.imp id ?_⟩, fun o ho => ?_⟩
      · rintro ⟨b, k, rfl, hm, ZR, r1, r2, r3⟩
        obtain ⟨hm1, hm2⟩ := hm rfl
        refine ⟨b, k, rfl, fun b' k' => X.own b' k' = some (p, true), ZR, fun b' k' h => ⟨p, true, by simp, h⟩, fun j hj => hm1 j hj, hm2, fun i b' k' hz => ⟨⟨p, false, by simp, r1 i b' k' hz⟩, fun h => ?_⟩, r2, r3⟩
        have h : X.own b' k' = some (p, true) := h
        rw [r1 i b' k' hz] at h; cases h
      · simp at ho; subst ho; exact ⟨_, _, _, hy⟩
  | osl p lo n =>
    obtain ⟨l1, x, l2, z, h1, h2, he⟩ := Rd.bind_some h
    obtain ⟨y, hy, hh⟩ := Rd.look_some h1
    cases hh
    cases x with
    | box _ => cases h2
    | arr e' ys lv d ver =>
      cases lv <;> cases d <;> first | (cases h2; done) | skip
      obtain ⟨l3, w, l4, w', h3, h4, he'⟩ := Rd.bind_some h2
      cases h4
      cases he'
      cases he
      obtain ⟨z, hz, hh⟩ := Rd.of_some h3
      cases hh
      obtain ⟨rfl, hq⟩ := castSl hz
      cases hq
      obtain ⟨a, cap, hl, hlo, a', rfl, hsh⟩ := hv.2 _ _ _ _ _ hy
      obtain ⟨a2, cap2, hl', hc, h5⟩ := OB _ _ hy
      rw [hl] at hl'
      cases hl'
      have hlen : (lsub ys lo n).length = n := by unfold lsub; simp; omega
      refine ⟨⟨a', cap - lo, by rw [hlen], by omega, ?_⟩, fun o ho => ?_⟩
      · by_cases hlt : lo < cap
        · obtain ⟨b, k, rfl, rfl⟩ := hsh hlt
          rcases h5 with h5 | ⟨b2, k2, hb2, hm, ZR, r1, r2, r3⟩
          · omega
          cases hb2
          obtain ⟨hm1, hm2⟩ := hm rfl
          refine Or.inr ⟨b, k + lo * e'.cells, rfl, fun b' k' => X.own b' k' = some (p, true), fun i => ZR (lo + i), fun b' k' h => ⟨p, true, by simp, h⟩, fun j hj => ?_, fun j hj => ?_, fun i b' k' hz => ⟨⟨p, false, by simp, r1 _ b' k' hz⟩, fun h => ?_⟩, fun i j b' k' h1 h2 => by have := r2 _ _ _ _ h1 h2; omega, fun i hi => ?_⟩
          · rw [Nat.add_assoc]; exact hm1 _ (mul_lt_of hj (by omega))
          · rw [Nat.add_assoc]; exact hm2 _ (mul_lt_of hj (by omega))
          · have h : X.own b' k' = some (p, true) := h
            rw [r1 _ b' k' hz] at h; cases h
          · rw [hlen] at hi
            obtain ⟨cs, q1, q2⟩ := r3 (lo + i) (by omega)
            refine ⟨cs, ?_, fun j v hj => ?_⟩
            · have : (lsub ys lo n)[i] = ys[lo + i] := by simp [lsub]
              rw [this]; exact q1
            · have e1 : k + lo * e'.cells + i * e'.cells + j = k + (lo + i) * e'.cells + j := by rw [Nat.add_mul]; omega
              rw [e1]; exact q2 j v hj
        · exact Or.inl (by omega)
      · simp at ho; subst ho; exact ⟨_, _, _, hy⟩
  | bad => cases h
  | int _ _ => cases h
  | bool _ => cases h
  | str _ => cases h
  | isl _ _ _ => cases h
  | ptr _ _ => cases h
  | ept _ _ _ => cases h
  | vpt _ _ => cases h
  | clo _ _ _ => cases h
  | nilp => cases h
  | agg _ => cases h
  | tup _ => cases h
  | nilb _ => cases h

theorem ownCells_own (OB : ∀ o x, X.ob o = some x → ObRel X o x) : ∀ {t : Ty} {cs : List FV} {us : List Value} {l : List Nat} {x : t.den} {ids : List Nat} {rest : List FV},
    ownCells t cs X.ob = some (l, ((x, ids), rest)) → LRel X cs us → ids.Nodup → ∃ u1 u2, us = u1 ++ u2 ∧ Own (ownZ X.own ids) X.W t x u1 ∧ LRel X rest u2 ∧ LiveD X ids := by
  intro t
  induction t with
  | int k =>
    intro cs us l x ids rest h hr _
    match cs, h with
    | c :: cs, h =>
      obtain ⟨v, us', rfl, hv, hr⟩ := hr
      cases c with
      | int k' n =>
        simp only [ownCells] at h
        split at h
        · rename_i hk; subst hk; cases h; exact ⟨[v], us', rfl, by cases hv; rfl, hr, by simp [LiveD]⟩
        · cases h
      | _ => cases h
    | [], h => cases h
  | bool =>
    intro cs us l x ids rest h hr _
    match cs, h with
    | c :: cs, h =>
      obtain ⟨v, us', rfl, hv, hr⟩ := hr
      cases c with
      | bool n => cases h; exact ⟨[v], us', rfl, by cases hv; rfl, hr, by simp [LiveD]⟩
      | _ => cases h
    | [], h => cases h
  | str =>
    intro cs us l x ids rest h hr _
    match cs, h with
    | c :: cs, h =>
      obtain ⟨v, us', rfl, hv, hr⟩ := hr
      cases c with
      | str n => cases h; exact ⟨[v], us', rfl, by cases hv; rfl, hr, by simp [LiveD]⟩
      | _ => cases h
    | [], h => cases h
  | sl e =>
    intro cs us l x ids rest h hr _
    match cs, h with
    | c :: cs, h =>
      obtain ⟨v, us', rfl, hv, hr⟩ := hr
      obtain ⟨l1, xs, l2, z, h1, h2, he⟩ := Rd.bind_some h
      cases h2
      simp only [List.append_nil, Prod.mk.injEq] at he
      obtain ⟨rfl, he1, rfl⟩ := he
      obtain ⟨q1, q2⟩ := ownSl_own OB (xs := xs.1) (ids := xs.2) h1 hv
      rw [← he1] at q1 q2
      exact ⟨[v], us', rfl, q1, hr, q2⟩
    | [], h => cases h
  | unit =>
    intro cs us l x ids rest h hr _
    cases h
    exact ⟨[], us, rfl, rfl, hr, by simp [LiveD]⟩
  | pair a b iha ihb =>
    intro cs us l x ids rest h hr hnd
    simp only [ownCells] at h
    obtain ⟨l1, xa, l2, z, h1, h2, he⟩ := Rd.bind_some h
    obtain ⟨l3, xb, l4, z', h3, h4, he'⟩ := Rd.bind_some h2
    cases h4
    cases he'
    simp only [List.append_nil, Prod.mk.injEq] at he
    obtain ⟨rfl, ⟨rfl, rfl⟩, rfl⟩ := he
    obtain ⟨n1, n2, n3⟩ := List.nodup_append.1 hnd
    obtain ⟨u1, u2, rfl, r1, r2, r5⟩ := iha (x := xa.1.1) (ids := xa.1.2) (rest := xa.2) h1 hr n1
    obtain ⟨u3, u4, rfl, r3, r4, r6⟩ := ihb (x := xb.1.1) (ids := xb.1.2) (rest := xb.2) h3 r2 n2
    refine ⟨u1 ++ u3, u4, by simp, ⟨u1, u3, rfl, _, _, ownZ.mono (by simp +contextual), ownZ.mono (by simp +contextual), ?_, r1, r3⟩, r4, ?_⟩
    · rintro b' k' ⟨o, m, ho, hw⟩ ⟨o', m', ho', hw'⟩
      rw [hw] at hw'
      cases hw'
      exact n3 o ho o ho' rfl
    · intro o ho
      rcases List.mem_append.1 ho with ho | ho
      · exact r5 o ho
      · exact r6 o ho
  | st t ih =>
    intro cs us l x ids rest h hr hnd
    exact ih (x := x) h hr hnd
  | ref =>
    intro cs us l x ids rest h hr _
    cases cs <;> cases h
end
end Go.Evr

