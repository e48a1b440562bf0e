import PyProof.Rows.All
import Wide.All
import OpenK.AllK
import Wide.FinOn
import PySem.Syntax
import HandS.ForMost
import HandS.Exc
import HandS.TryOnly
import HandS.ExcOwn
import HandS.CallLocal
import HandS.StrMore
import HandS.Wide
import HandS.WideBits
import HandS.TupAny
import HandS.Flow
import HandS.Style
import HandS.ExcSuper
import HandS.IsInst
import HandS.ExcIs
import PyProof.AutoSeq1
import HandS.More
import HandS.Comp
import HandS.Iter
import HandS.Zip
import HandS.Small
import HandS.WordsExc
import HandS.Ends
import PySem.Challenge.RW_onlywhatmatters_k57_integers_and_data
set_option Elab.async false
set_option linter.all false
set_option maxRecDepth 100000
/-! ZCore: an abstract domain, a small language of statements over it, and its interpreter. -/
namespace Z
open PySem (Operator CmpOp)

/-- a datum: lists and dicts here are those that change no more; ref: a cell; fn: a def -/
inductive D where
  | non | bl (b : Bool) | int (i : Int) | str (x : List Nat) | tup (ds : List D) | lst (ds : List D) | dct (ks vs : List D) | ref (n : Nat) | fn (f : Nat) | scr (ns : List Int)
  deriving Inhabited
/-- what may change: a list, a dict, an instance -/
inductive Cell where
  | L (ds : List D) | M (ks vs : List D) | I (c : Nat) (fs : List (Nat × D))
  deriving Inhabited
/-- a name's slot: nothing, a datum, an object that only this name knows -/
inductive Slot where
  | no | sh (d : D) | own (c : Cell)
  deriving Inhabited
structure Sta where
  σ : List Slot
  S : List Cell
inductive Exn where
  | mk (c : Nat) (ds : List D)
inductive Res (α : Type) where
  | ok (a : α) (s : Sta) | exn (x : Exn) (s : Sta) | stuck
inductive FRes where
  | ok (o : Bool) (d : D) (S : List Cell) | exn (x : Exn) (S : List Cell) | stuck
inductive RS where
  | next (s : Sta) | brk (s : Sta) | cnt (s : Sta) | ret (o : Bool) (d : D) (s : Sta) | exn (x : Exn) (s : Sta) | stuck

def Res.bind {α β : Type} (r : Res α) (f : α → Sta → Res β) : Res β :=
  match r with
  | .ok a s => f a s
  | .exn x s => .exn x s
  | .stuck => .stuck
def Res.then {α : Type} (r : Res α) (f : α → Sta → RS) : RS :=
  match r with
  | .ok a s => f a s
  | .exn x s => .exn x s
  | .stuck => .stuck
def RS.seq (r : RS) (f : Sta → RS) : RS :=
  match r with
  | .next s => f s
  | r => r

def Cell.view : Cell → Option D
  | .L ds => some (.lst ds)
  | .M ks vs => some (.dct ks vs)
  | .I _ _ => none
/-- an operand: a value, or an object that the name i alone knows -/
inductive Arg where
  | val (d : D) | slot (i : Nat)
def derefS (S : List Cell) : D → Option D
  | .ref n => (S[n]?).bind Cell.view
  | d => some d
def Arg.get (s : Sta) : Arg → Option D
  | .val d => derefS s.S d
  | .slot i => match s.σ[i]? with
    | some (.own c) => c.view
    | some (.sh d) => derefS s.S d
    | _ => none
def getAll (s : Sta) : List Arg → Option (List D)
  | [] => some []
  | a :: as => match a.get s, getAll s as with
    | some d, some ds => some (d :: ds)
    | _, _ => none

/-! ### operations on data -/
def LIM : Nat := 16777216
inductive Ty where
  | int | bool | str | tuple | list | dict
  deriving DecidableEq
inductive Prim where
  | bin (op : Operator) | cmp (op : CmpOp) | neg | ix | rev
  | len | abs | tupleOf | listOf | intOf | strOf | ordOf | allOf | anyOf | divmodOf | sumOf | isi (t : Ty) | sortedOf
  | isNone (neg : Bool)
inductive MPrim where
  | join | zfill | find3 | get1 | get2 | index | startswith
inductive Mut where
  | append | pop | extend | insert | popAt
  deriving DecidableEq

mutual
/-- no ref, no fn, no dict within -/
def D.plain : D → Bool
  | .non => true
  | .bl _ => true
  | .int _ => true
  | .str _ => true
  | .tup ds => plains ds
  | .lst ds => plains ds
  | _ => false
def plains : List D → Bool
  | [] => true
  | d :: ds => d.plain && plains ds
end
def b2i (b : Bool) : Int := if b then 1 else 0
mutual
/-- Python's == on plain data -/
def D.eqv : D → D → Bool
  | .non, .non => true
  | .bl a, .bl b => a == b
  | .bl a, .int b => b2i a == b
  | .int a, .bl b => a == b2i b
  | .int a, .int b => a == b
  | .str a, .str b => a == b
  | .tup a, .tup b => eqvs a b
  | .lst a, .lst b => eqvs a b
  | _, _ => false
def eqvs : List D → List D → Bool
  | [], [] => true
  | a :: as, b :: bs => a.eqv b && eqvs as bs
  | _, _ => false
end
mutual
def D.deep : D → Nat
  | .tup ds => deeps ds + 1
  | .lst ds => deeps ds + 1
  | _ => 0
def deeps : List D → Nat
  | [] => 0
  | d :: ds => max d.deep (deeps ds)
end
/-- flat: the deepest that == looks at -/
def D.fit (d : D) : Bool := d.plain && decide (d.deep ≤ 64)

def divOk (j : Int) : Bool := decide (0 < j) && (decide (j < 1073741824) || decide (j.natAbs.log2 < 9000))
def mulOk (i j : Int) : Bool := decide (i.natAbs < 18446744073709551616) || decide (j.natAbs < 18446744073709551616) || decide (i.natAbs.log2 + j.natAbs.log2 < 900000)
def binD : Operator → D → D → Option (Bool × D)
  | .Add, .int i, .int j => some (false, .int (i + j))
  | .Add, .str x, .str y => if x.length + y.length ≤ LIM then some (false, .str (x ++ y)) else none
  | .Add, .tup x, .tup y => if x.length + y.length ≤ LIM then some (false, .tup (x ++ y)) else none
  | .Add, .lst x, .lst y => if x.length + y.length ≤ LIM then some (true, .lst (x ++ y)) else none
  | .Sub, .int i, .int j => some (false, .int (i - j))
  | .Mult, .int i, .int j => if mulOk i j then some (false, .int (i * j)) else none
  | .Mult, .str x, .int j => if x.length * j.toNat ≤ LIM ∧ j.natAbs < 1073741824 then some (false, .str (List.replicate j.toNat x).flatten) else none
  | .FloorDiv, .int i, .int j => if divOk j then some (false, .int (i / j)) else none
  | .Mod, .int i, .int j => if 0 < j then some (false, .int (i % j)) else none
  | .Pow, .int i, .int j => if 0 ≤ j ∧ j ≤ 1000000 ∧ i.natAbs < 18446744073709551616 then some (false, .int (i ^ j.toNat)) else none
  | _, _, _ => none
def ltL : List Nat → List Nat → Bool
  | [], [] => false
  | [], _ :: _ => true
  | _ :: _, [] => false
  | a :: as, b :: bs => if a = b then ltL as bs else decide (a < b)
def memD (x : D) (ds : List D) : Bool := ds.any fun z => z.eqv x
def keyOk : D → Bool
  | .int _ => true
  | .str _ => true
  | _ => false
def lookD : List D → List D → D → Option D
  | k :: ks, v :: vs, x => if k.eqv x then some v else lookD ks vs x
  | _, _, _ => none
def inD (x : D) : D → Option Bool
  | .lst ds => if x.fit && plains ds && decide (deeps ds ≤ 63) then some (memD x ds) else none
  | .tup ds => if x.fit && plains ds && decide (deeps ds ≤ 63) then some (memD x ds) else none
  | .str z => match x with
    | .str [c] => some (decide (c ∈ z))
    | _ => none
  | .dct ks vs => if keyOk x then some (lookD ks vs x).isSome else none
  | _ => none
def cmpD : CmpOp → D → D → Option (Bool × D)
  | .Eq, x, y => if x.fit && y.fit then some (false, .bl (x.eqv y)) else none
  | .NotEq, x, y => if x.fit && y.fit then some (false, .bl (!x.eqv y)) else none
  | .Lt, .int i, .int j => some (false, .bl (decide (i < j)))
  | .LtE, .int i, .int j => some (false, .bl (decide (i ≤ j)))
  | .Gt, .int i, .int j => some (false, .bl (decide (j < i)))
  | .GtE, .int i, .int j => some (false, .bl (decide (j ≤ i)))
  | .Lt, .str i, .str j => some (false, .bl (ltL i j))
  | .Gt, .str i, .str j => some (false, .bl (ltL j i))
  | .In, x, y => (inD x y).map fun b => (false, .bl b)
  | .NotIn, x, y => (inD x y).map fun b => (false, .bl (!b))
  | _, _, _ => none
/-- the place of an index -/
def ixN (n : Nat) (i : Int) : Option Nat := if 0 ≤ i then (if i < n then some i.toNat else none) else if -(n : Int) ≤ i then some (i + n).toNat else none
def atI {α : Type} (xs : List α) (i : Int) : Option α := (ixN xs.length i).bind fun j => xs[j]?
def ixD : D → D → Option (Bool × D)
  | .lst ds, .int i => (atI ds i).map fun d => (false, d)
  | .tup ds, .int i => (atI ds i).map fun d => (false, d)
  | .str x, .int i => (atI x i).map fun c => (false, .str [c])
  | .dct ks vs, k => if keyOk k then (lookD ks vs k).map fun d => (false, d) else none
  | _, _ => none
def sIx (n d : Nat) : Option Int → Nat
  | none => d
  | some v => if v < 0 then (max (v + n) 0).toNat else (min v n).toNat
def cut {α : Type} (xs : List α) (lo hi : Option Int) : List α := (xs.drop (sIx xs.length 0 lo)).take (sIx xs.length xs.length hi - sIx xs.length 0 lo)
def slD (x : D) (lo hi : Option Int) : Option (Bool × D) := match x with
  | .lst ds => some (true, .lst (cut ds lo hi))
  | .tup ds => some (false, .tup (cut ds lo hi))
  | .str x => some (false, .str (cut x lo hi))
  | _ => none
def lenD : D → Option Nat
  | .lst ds => some ds.length
  | .tup ds => some ds.length
  | .str x => some x.length
  | .dct ks _ => some ks.length
  | _ => none
/-- the decimal digits -/
def digits (n : Nat) : List Nat := (Nat.toDigits 10 n).map Char.toNat
def allDig (x : List Nat) : Bool := x.all fun c => decide (48 ≤ c ∧ c ≤ 57)
def digVal (x : List Nat) : Nat := x.foldl (fun a c => a * 10 + (c - 48)) 0
def allB : List D → Option Bool
  | [] => some true
  | .bl b :: r => (allB r).map fun c => b && c
  | _ => none
def anyB : List D → Option Bool
  | [] => some false
  | .bl b :: r => (anyB r).map fun c => b || c
  | _ => none
def sumI : List D → Option Int
  | [] => some 0
  | .int i :: r => (sumI r).map fun c => i + c
  | _ => none
def strsOf : List D → Option (List (List Nat))
  | [] => some []
  | .str x :: r => (strsOf r).map fun c => x :: c
  | _ => none
def isiD : Ty → D → Option Bool
  | .int, .int _ => some true
  | .int, .bl _ => some true
  | .bool, .bl _ => some true
  | .str, .str _ => some true
  | .tuple, .tup _ => some true
  | .list, .lst _ => some true
  | .dict, .dct _ _ => some true
  | _, .fn _ => none
  | _, .ref _ => none
  | _, .scr _ => none
  | _, .dct _ _ => none
  | _, _ => some false
def insL (x : List Nat) : List (List Nat) → List (List Nat)
  | [] => [x]
  | y :: r => if ltL y x then y :: insL x r else x :: y :: r
def sortL : List (List Nat) → List (List Nat)
  | [] => []
  | x :: r => insL x (sortL r)
def truthD : D → Option Bool
  | .non => some false
  | .bl b => some b
  | .int i => some (i != 0)
  | .str x => some (!x.isEmpty)
  | .tup ds => some (!ds.isEmpty)
  | .lst ds => some (!ds.isEmpty)
  | .dct ks _ => some (!ks.isEmpty)
  | _ => none
def seqOf : D → Option (List D)
  | .lst ds => some ds
  | .tup ds => some ds
  | _ => none
def negD : D → Option (Bool × D)
  | .int i => some (false, .int (-i))
  | _ => none
def revD : D → Option (Bool × D)
  | .lst ds => some (true, .lst ds.reverse)
  | _ => none
def lenP (x : D) : Option (Bool × D) := match lenD x with
  | some n => some (false, .int n)
  | none => none
def absD : D → Option (Bool × D)
  | .int i => some (false, .int (if i < 0 then -i else i))
  | _ => none
def tupleD (x : D) : Option (Bool × D) := match seqOf x with
  | some ds => some (false, .tup ds)
  | none => none
def listD : D → Option (Bool × D)
  | .scr ns => some (true, .lst (ns.map .int))
  | .lst ds => some (true, .lst ds)
  | .tup ds => some (true, .lst ds)
  | _ => none
def intD : D → Option (Bool × D)
  | .int i => some (false, .int i)
  | .bl b => some (false, .int (b2i b))
  | .str x => if allDig x ∧ x ≠ [] ∧ x.length ≤ 640 then some (false, .int (digVal x)) else none
  | _ => none
def strD : D → Option (Bool × D)
  | .int i => if 0 ≤ i ∧ i.natAbs.log2 < 1920 then some (false, .str (digits i.natAbs)) else none
  | _ => none
def ordD : D → Option (Bool × D)
  | .str [c] => some (false, .int c)
  | _ => none
def allD : D → Option (Bool × D)
  | .lst ds => match allB ds with
    | some b => some (false, .bl b)
    | none => none
  | _ => none
def anyD : D → Option (Bool × D)
  | .lst ds => match anyB ds with
    | some b => some (false, .bl b)
    | none => none
  | _ => none
def sumD : D → Option (Bool × D)
  | .lst ds => match sumI ds with
    | some i => some (false, .int i)
    | none => none
  | _ => none
def divmodD : D → D → Option (Bool × D)
  | .int i, .int j => if divOk j then some (false, .tup [.int (i / j), .int (i % j)]) else none
  | _, _ => none
def isiP (t : Ty) (x : D) : Option (Bool × D) := match isiD t x with
  | some b => some (false, .bl b)
  | none => none
def noneD (n : Bool) : D → Option (Bool × D)
  | .non => some (false, .bl (!n))
  | _ => some (false, .bl n)
def sortedD : D → Option (Bool × D)
  | .lst ds => match strsOf ds with
    | some xs => if xs.length < 64 then some (true, .lst ((sortL xs).map D.str)) else none
    | none => none
  | _ => none
def prim1 : Prim → D → Option (Bool × D)
  | .neg, x => negD x
  | .rev, x => revD x
  | .len, x => lenP x
  | .abs, x => absD x
  | .tupleOf, x => tupleD x
  | .listOf, x => listD x
  | .intOf, x => intD x
  | .strOf, x => strD x
  | .ordOf, x => ordD x
  | .allOf, x => allD x
  | .anyOf, x => anyD x
  | .sumOf, x => sumD x
  | .isi t, x => isiP t x
  | .isNone n, x => noneD n x
  | .sortedOf, x => sortedD x
  | _, _ => none
def prim2 : Prim → D → D → Option (Bool × D)
  | .bin op, x, y => binD op x y
  | .cmp op, x, y => cmpD op x y
  | .ix, x, y => ixD x y
  | .divmodOf, x, y => divmodD x y
  | _, _, _ => none
def prim (p : Prim) (ds : List D) : Option (Bool × D) := match ds with
  | [x] => prim1 p x
  | [x, y] => prim2 p x y
  | _ => none
def joinL (sep : List Nat) : List (List Nat) → List Nat
  | [] => []
  | [x] => x
  | x :: r => x ++ sep ++ joinL sep r
def joinLen (sep : List Nat) (xs : List (List Nat)) : Nat := (xs.map fun x => x.length + sep.length).sum
def findN (c : Nat) : List Nat → Option Nat
  | [] => none
  | x :: r => if x = c then some 0 else match findN c r with
    | some k => some (k + 1)
    | none => none
def joinD : D → D → Option (Bool × D)
  | .str sep, x => match seqOf x with
    | some ds => match strsOf ds with
      | some xs => if joinLen sep xs ≤ LIM then some (false, .str (joinL sep xs)) else none
      | none => none
    | none => none
  | _, _ => none
def zfillD : D → D → Option (Bool × D)
  | .str x, .int n => if allDig x ∧ 0 ≤ n ∧ n ≤ 1000000 then some (false, .str (List.replicate (n.toNat - x.length) 48 ++ x)) else none
  | _, _ => none
def find3D : D → D → D → Option (Bool × D)
  | .str x, .str y, .int i => match y with
    | [c] => if 0 ≤ i then some (false, .int (match findN c (x.drop i.toNat) with
      | some k => (i.toNat + k : Nat)
      | none => -1)) else none
    | _ => none
  | _, _, _ => none
def flatD : D → Bool
  | .lst _ => false
  | .dct _ _ => false
  | _ => true
def get1D : D → D → Option (Bool × D)
  | .dct ks vs, k => if keyOk k then some (false, (lookD ks vs k).getD .non) else none
  | _, _ => none
def get2D : D → D → D → Option (Bool × D)
  | .dct ks vs, k, d => if keyOk k && flatD d then some (false, (lookD ks vs k).getD d) else none
  | _, _, _ => none
/-- a method of a text, a list, a dict that changes nothing: the receiver first -/
def mprim2 : MPrim → D → D → Option (Bool × D)
  | .join, o, x => joinD o x
  | .zfill, o, x => zfillD o x
  | .get1, o, x => get1D o x
  | _, _, _ => none
def mprim3 : MPrim → D → D → D → Option (Bool × D)
  | .find3, o, x, y => find3D o x y
  | .get2, o, x, y => get2D o x y
  | _, _, _, _ => none
def mprim (m : MPrim) (ds : List D) : Option (Bool × D) := match ds with
  | [o, x] => mprim2 m o x
  | [o, x, y] => mprim3 m o x y
  | _ => none
/-- the receiver's type -/
def mrecv : MPrim → D → Bool
  | .join, .str _ => true
  | .zfill, .str _ => true
  | .find3, .str _ => true
  | .get1, .dct _ _ => true
  | .get2, .dct _ _ => true
  | _, _ => false
def repD : List D → List D → D → D → List D
  | k :: ks, v :: vs, x, d => (if k.eqv x then d else v) :: repD ks vs x d
  | _, _, _, _ => []
def putD (ks vs : List D) (x d : D) : List D × List D :=
  if (lookD ks vs x).isSome then (ks, repD ks vs x d) else (ks ++ [x], vs ++ [d])
/-- op=, of ints -/
def augD : Operator → D → D → Option D
  | .Add, .int i, .int j => some (.int (i + j))
  | .Sub, .int i, .int j => some (.int (i - j))
  | _, _, _ => none
def appendC : Cell → D → Option (Cell × D)
  | .L ds, d => if ds.length < LIM then some (.L (ds ++ [d]), .non) else none
  | _, _ => none
def extendC : Cell → D → Option (Cell × D)
  | .L ds, x => match seqOf x with
    | some es => if ds.length + es.length ≤ LIM then some (.L (ds ++ es), .non) else none
    | none => none
  | _, _ => none
def popC : Cell → Option (Cell × D)
  | .L ds => match ds.getLast? with
    | some d => some (.L ds.dropLast, d)
    | none => none
  | _ => none
def insertC : Cell → D → D → Option (Cell × D)
  | .L ds, .int i, d => if ds.length < LIM ∧ 0 ≤ i ∧ i < 4611686018427387904 then some (.L (ds.take i.toNat ++ [d] ++ ds.drop i.toNat), .non) else none
  | _, _, _ => none
/-- a method that changes its receiver -/
def mutC (m : Mut) (c : Cell) (ds : List D) : Option (Cell × D) := match m, ds with
  | .append, [d] => appendC c d
  | .extend, [x] => extendC c x
  | .pop, [] => popC c
  | .insert, [i, d] => insertC c i d
  | _, _ => none
/-- o[i] = v -/
def putC : Cell → D → D → Option Cell
  | .L ds, .int i, d => (ixN ds.length i).map fun j => .L (ds.set j d)
  | .M ks vs, k, d => if keyOk k ∧ ks.length < LIM then some (.M (putD ks vs k d).1 (putD ks vs k d).2) else none
  | _, _, _ => none
def getC (c : Cell) (k : D) : Option D := match c.view with
  | some d => (ixD d k).map (·.2)
  | none => none

/-! ### the language -/
inductive Tg where
  | v (i : Nat) | tup (ts : List Tg)
mutual
inductive E where
  | v (i : Nat) | lit (d : D) | g (n : Nat) | fn (f : Nat)
  | pr (p : Prim) (es : List E) | sl (a : E) (lo hi : Option E)
  | mp (m : MPrim) (o : E) (es : List E)
  | mu (m : Mut) (o : E) (es : List E)
  | tup (es : List E) | lst (es : List E) | dct (ks vs : List E)
  | cell (e : E)
  | call (f : Nat) (es : List E) | callv (i : Nat) (es : List E)
  | notV (e : E) | bopV (b : Bool) (es : List E) | ite (t : T) (a b : E)
  | comp (tg : Tg) (vs : List Nat) (it : It) (ifs : List T) (e : E)
  | fld (o : E) (f : Nat) | mk (c : Nat) (es : List E) | mc (o : E) (m : Nat) (es : List E)
inductive T where
  | cmp (op : CmpOp) (a b : E) | e (a : E) | not (t : T) | bop (b : Bool) (ts : List T)
inductive It where
  | seq (e : E) | rng (es : List E) | enum (e : E) | zip (a b : E)
end
inductive Suite where
  | isi (c : Nat) | lit (d : D) | cat (x : List Nat) (f : Nat)
inductive S where
  | set (i : Nat) (e : E) | setT (t : Tg) (e : E) | aug (i : Nat) (op : Operator) (e : E)
  | put (o k e : E) | putA (o k : E) (op : Operator) (e : E)
  | fset (o : E) (f : Nat) (e : E) | fsetA (o : E) (f : Nat) (op : Operator) (e : E)
  | ret (e : E) | retN | ife (t : T) (a b : List S) | whl (t : T) (b : List S) | fr (tg : Tg) (it : It) (b : List S)
  | brk | cnt | pass | exp (e : E) | rais (c : Nat) (es : List E) | tryE (b : List S) (c : Nat) (i : Nat) (su : Suite)

/-! ### the interpreter -/
structure Prog where
  call : Nat → List D → List Cell → FRes
  glob : Nat → Option D
  init : Nat → Option Nat
  meth : Nat → Nat → Option Nat
  sub : Nat → Nat → Bool
  flds : Nat → List Nat
/-- a name read as a value: what it alone knew is known to others from now on, and changes no more -/
def readV (i : Nat) (s : Sta) : Res (Bool × D) := match s.σ[i]? with
  | some (.sh d) => .ok (false, d) s
  | some (.own c) => match c.view with
    | some d => .ok (false, d) { s with σ := s.σ.set i (.sh d) }
    | none => .stuck
  | _ => .stuck
/-- an operand -/
def rdArg (e : E) (f : Sta → Res (Bool × D)) (s : Sta) : Res Arg := match e with
  | .v i => match s.σ[i]? with
    | some (.sh d) => .ok (.val d) s
    | some (.own _) => .ok (.slot i) s
    | _ => .stuck
  | _ => (f s).bind fun x s1 => .ok (.val x.2) s1
/-- a place that may change: a name's own object, or a cell -/
inductive Place where
  | slot (i : Nat) | cell (n : Nat)
def rdPlace (e : E) (f : Sta → Res (Bool × D)) (s : Sta) : Res Place := match e with
  | .v i => match s.σ[i]? with
    | some (.sh (.ref n)) => .ok (.cell n) s
    | some (.own _) => .ok (.slot i) s
    | _ => .stuck
  | _ => (f s).bind fun x s1 => match x.2 with
    | .ref n => .ok (.cell n) s1
    | _ => .stuck
def Place.get (s : Sta) : Place → Option Cell
  | .slot i => match s.σ[i]? with
    | some (.own c) => some c
    | _ => none
  | .cell n => s.S[n]?
def Place.set (s : Sta) (c : Cell) : Place → Sta
  | .slot i => { s with σ := s.σ.set i (.own c) }
  | .cell n => { s with S := s.S.set n c }
def isList : Option Cell → Bool
  | some (.L _) => true
  | _ => false
def lift {α : Type} (o : Option α) (s : Sta) : Res α := match o with
  | some a => .ok a s
  | none => .stuck
def fromF (σ : List Slot) : FRes → Res (Bool × D)
  | .ok o d S => .ok (o, d) ⟨σ, S⟩
  | .exn x S => .exn x ⟨σ, S⟩
  | .stuck => .stuck
def toCell : D → Option Cell
  | .lst ds => some (.L ds)
  | .dct ks vs => some (.M ks vs)
  | _ => none
mutual
def assign : Tg → D → List Slot → Option (List Slot)
  | .v i, d, σ => if i < σ.length then some (σ.set i (.sh d)) else none
  | .tup ts, d, σ => match d with
    | .tup ds => assigns ts ds σ
    | _ => none
def assigns : List Tg → List D → List Slot → Option (List Slot)
  | [], [], σ => some σ
  | t :: ts, d :: ds, σ => match assign t d σ with
    | some σ' => assigns ts ds σ'
    | none => none
  | _, _, _ => none
end
def isSh : Slot → Bool
  | .own _ => false
  | _ => true
/-- the slots vs emptied; put back -/
def wipeZ (σ : List Slot) : List Nat → List Slot
  | [] => σ
  | v :: vs => (wipeZ σ vs).set v .no
def backZ (σ0 σ : List Slot) : List Nat → List Slot
  | [] => σ
  | v :: vs => (backZ σ0 σ vs).set v (σ0.getD v .no)
/-- nothing is raised -/
def noX {α : Type} : Res α → Res α
  | .exn _ _ => .stuck
  | r => r
def compL (turn : D → Sta → Res (Option D)) : List D → List D → Sta → Res (List D)
  | [], acc, s => .ok acc s
  | d :: ds, acc, s => (turn d s).bind fun r s1 => match r with
    | some x => if acc.length < LIM then compL turn ds (acc ++ [x]) s1 else .stuck
    | none => compL turn ds acc s1
def rangeL (lo : Int) : Nat → List D
  | 0 => []
  | n + 1 => .int lo :: rangeL (lo + 1) n
def RLIM : Int := 4611686018427387904
def rangeS (lo c : Int) : Nat → List D
  | 0 => []
  | n + 1 => .int lo :: rangeS (lo + c) c n
def stepsN (a b c : Int) : Nat := if a < b then ((b - a - 1) / c + 1).toNat else 0
def rangeD : List D → Option (List D)
  | [.int a, .int b, .int c] => if -RLIM ≤ a ∧ a < RLIM ∧ -RLIM ≤ b ∧ b < RLIM ∧ 0 < c ∧ c < 1073741824 then some (rangeS a c (stepsN a b c)) else none
  | [.int n] => if -RLIM ≤ n ∧ n < RLIM then some (rangeL 0 n.toNat) else none
  | [.int a, .int b] => if -RLIM ≤ a ∧ a < RLIM ∧ -RLIM ≤ b ∧ b < RLIM then some (rangeL a (b - a).toNat) else none
  | _ => none
def enumD (k : Int) : List D → List D
  | [] => []
  | d :: ds => .tup [.int k, d] :: enumD (k + 1) ds
def zipD : List D → List D → List D
  | x :: xs, y :: ys => .tup [x, y] :: zipD xs ys
  | _, _ => []
def iterD : D → Option (List D)
  | .lst ds => some ds
  | .tup ds => some ds
  | .str x => some (x.map fun c => .str [c])
  | _ => none
def lookF (f : Nat) : List (Nat × D) → Option D
  | [] => none
  | (g, d) :: r => if g = f then some d else lookF f r
def putF (f : Nat) (d : D) : List (Nat × D) → List (Nat × D)
  | [] => [(f, d)]
  | (g, x) :: r => if g = f then (g, d) :: r else (g, x) :: putF f d r

def keysOk : List D → Bool
  | [] => true
  | k :: ks => keyOk k && keysOk ks
def mkDict : List D → List D → List D → List D → List D × List D
  | k :: ks, v :: vs, aks, avs => mkDict ks vs (putD aks avs k v).1 (putD aks avs k v).2
  | _, _, aks, avs => (aks, avs)

mutual
/-- a value; true: an object that nobody else knows -/
def ev (P : Prog) : E → Sta → Res (Bool × D)
  | .v i, s => readV i s
  | .lit d, s => .ok (false, d) s
  | .g n, s => (lift (P.glob n) s).bind fun d s => .ok (false, d) s
  | .fn f, s => .ok (false, .fn f) s
  | .pr p es, s => (evrs P es s).bind fun as s1 => (lift (getAll s1 as) s1).bind fun ds s1 => lift (prim p ds) s1
  | .sl a lo hi, s => (rdArg a (ev P a) s).bind fun x s1 => (evo P lo s1).bind fun l s2 => (evo P hi s2).bind fun h s3 => match x.get s3 with
    | some d => lift (slD d l h) s3
    | none => .stuck
  | .mp m o es, s => (rdArg o (ev P o) s).bind fun a s1 => match a.get s1 with
    | some d => if mrecv m d then (evrs P es s1).bind fun as s2 => (lift (getAll s2 (a :: as)) s2).bind fun ds s2 => lift (mprim m ds) s2 else .stuck
    | none => .stuck
  | .mu m o es, s => (rdPlace o (ev P o) s).bind fun p s1 => if isList (p.get s1) then (evs P es s1).bind fun ds s2 => match p.get s2 with
      | some c => match mutC m c ds with
        | some (c', d) => .ok (false, d) (p.set s2 c')
        | none => .stuck
      | none => .stuck
    else .stuck
  | .tup es, s => (evs P es s).bind fun ds s1 => if ds.length ≤ LIM then .ok (false, .tup ds) s1 else .stuck
  | .lst es, s => (evs P es s).bind fun ds s1 => if ds.length ≤ LIM then .ok (true, .lst ds) s1 else .stuck
  | .dct ks vs, s => (evs P ks s).bind fun kd s1 => (evs P vs s1).bind fun vd s2 =>
      if keysOk kd ∧ kd.length = vd.length ∧ kd.length ≤ 15 then .ok (true, .dct (mkDict kd vd [] []).1 (mkDict kd vd [] []).2) s2 else .stuck
  | .cell e, s => (ev P e s).bind fun x s1 => if x.1 then match toCell x.2 with
      | some c => .ok (false, .ref s1.S.length) { s1 with S := s1.S ++ [c] }
      | none => .stuck
    else .stuck
  | .call f es, s => (evs P es s).bind fun ds s1 => fromF s1.σ (P.call f ds s1.S)
  | .callv i es, s => match s.σ[i]? with
    | some (.sh (.fn f)) => (evs P es s).bind fun ds s1 => fromF s1.σ (P.call f ds s1.S)
    | _ => .stuck
  | .notV e, s => (rdArg e (ev P e) s).bind fun x s1 => match x.get s1 with
    | some d => match truthD d with
      | some b => .ok (false, .bl (!b)) s1
      | none => .stuck
    | none => .stuck
  | .bopV b es, s => evb P b es s
  | .ite t a b, s => (evt P t s).bind fun c s1 => if c then ev P a s1 else ev P b s1
  | .comp tg vs it ifs e, s => (evit P it s).bind fun ds s1 =>
      if (vs.all fun v => isSh (s1.σ.getD v .no)) then
        (compL (fun d s2 => noX (match assign tg d s2.σ with
            | some σ' => (evts P ifs { s2 with σ := σ' }).bind fun b s3 => if b then (ev P e s3).bind fun x s4 => .ok (some x.2) { s4 with σ := wipeZ s4.σ vs } else .ok none { s3 with σ := wipeZ s3.σ vs }
            | none => .stuck)) ds [] { s1 with σ := wipeZ s1.σ vs }).bind fun r s5 => .ok (true, .lst r) { s5 with σ := backZ s1.σ s5.σ vs }
      else .stuck
  | .fld o f, s => (ev P o s).bind fun x s1 => match x.2 with
    | .ref n => match s1.S[n]? with
      | some (.I _ fs) => match lookF f fs with
        | some d => .ok (false, d) s1
        | none => .stuck
      | _ => .stuck
    | _ => .stuck
  | .mk c es, s => (evs P es s).bind fun ds s1 => match P.init c with
    | some f => match P.call f (.ref s1.S.length :: ds) (s1.S ++ [.I c []]) with
      | .ok _ d S' => match d with
        | .non => .ok (false, .ref s1.S.length) ⟨s1.σ, S'⟩
        | _ => .stuck
      | .exn x S' => .exn x ⟨s1.σ, S'⟩
      | .stuck => .stuck
    | none => .stuck
  | .mc o m es, s => (ev P o s).bind fun x s1 => match x.2 with
    | .ref n => match s1.S[n]? with
      | some (.I c _) => match P.meth c m with
        | some f => (evs P es s1).bind fun ds s2 => fromF s2.σ (P.call f (.ref n :: ds) s2.S)
        | none => .stuck
      | _ => .stuck
    | _ => .stuck
/-- a part of a slice -/
def evo (P : Prog) : Option E → Sta → Res (Option Int)
  | none, s => .ok none s
  | some e, s => (ev P e s).bind fun v s1 => match v.2 with
    | .int i => .ok (some i) s1
    | _ => .stuck
/-- values -/
def evs (P : Prog) : List E → Sta → Res (List D)
  | [], s => .ok [] s
  | e :: es, s => (ev P e s).bind fun x s1 => (evs P es s1).bind fun xs s2 => .ok (x.2 :: xs) s2
/-- operands -/
def evrs (P : Prog) : List E → Sta → Res (List Arg)
  | [], s => .ok [] s
  | e :: es, s => (rdArg e (ev P e) s).bind fun x s1 => (evrs P es s1).bind fun xs s2 => .ok (x :: xs) s2
/-- and, or as values: of bools -/
def evb (P : Prog) : Bool → List E → Sta → Res (Bool × D)
  | _, [], s => .stuck
  | b, e :: es, s => (ev P e s).bind fun x s1 => match x.2 with
    | .bl c => match es with
      | [] => .ok (false, .bl c) s1
      | _ => if c = b then evb P b es s1 else .ok (false, .bl c) s1
    | _ => .stuck
def evt (P : Prog) : T → Sta → Res Bool
  | .cmp op a b, s => (rdArg a (ev P a) s).bind fun x s1 => (rdArg b (ev P b) s1).bind fun y s2 => match x.get s2, y.get s2 with
    | some d, some e => match cmpD op d e with
      | some (_, .bl c) => .ok c s2
      | _ => .stuck
    | _, _ => .stuck
  | .e a, s => (rdArg a (ev P a) s).bind fun x s1 => match x.get s1 with
    | some d => lift (truthD d) s1
    | none => .stuck
  | .not t, s => (evt P t s).bind fun b s1 => .ok (!b) s1
  | .bop b ts, s => evtb P b ts s
def evtb (P : Prog) : Bool → List T → Sta → Res Bool
  | _, [], s => .stuck
  | b, t :: ts, s => (evt P t s).bind fun c s1 => match ts with
    | [] => .ok c s1
    | _ => if c = b then evtb P b ts s1 else .ok c s1
def evts (P : Prog) : List T → Sta → Res Bool
  | [], s => .ok true s
  | [t], s => evt P t s
  | _, _ => .stuck
def evit (P : Prog) : It → Sta → Res (List D)
  | .seq e, s => (ev P e s).bind fun x s1 => lift (iterD x.2) s1
  | .rng es, s => (evs P es s).bind fun ds s1 => lift (rangeD ds) s1
  | .enum e, s => (ev P e s).bind fun x s1 => match x.2 with
    | .lst ds => .ok (enumD 0 ds) s1
    | _ => .stuck
  | .zip a b, s => (ev P a s).bind fun x s1 => (ev P b s1).bind fun y s2 => match x.2, y.2 with
    | .lst xs, .lst ys => .ok (zipD xs ys) s2
    | .tup xs, .tup ys => .ok (zipD xs ys) s2
    | _, _ => .stuck
end

def forL (body : D → Sta → RS) : List D → Sta → RS
  | [], s => .next s
  | d :: ds, s => match body d s with
    | .next s1 => forL body ds s1
    | .cnt s1 => forL body ds s1
    | .brk s1 => .next s1
    | r => r
def whileN (c : Sta → Res Bool) (body : Sta → RS) : Nat → Sta → RS
  | 0, _ => .stuck
  | n + 1, s => (c s).then fun b s1 => if b then match body s1 with
      | .next s2 => whileN c body n s2
      | .cnt s2 => whileN c body n s2
      | .brk s2 => .next s2
      | r => r
    else .next s1
open Classical in
noncomputable def whileL (c : Sta → Res Bool) (body : Sta → RS) (s : Sta) : RS :=
  if h : ∃ n, whileN c body n s ≠ .stuck then whileN c body (Classical.choose h) s else .stuck

def suiteD (P : Prog) (c : Nat) (ds : List D) : Suite → Option D
  | .isi c' => if ds.isEmpty then some (.bl (P.sub c c')) else none
  | .lit d => some d
  | .cat x f => match (P.flds c).idxOf? f with
    | some k => match ds[k]? with
      | some (.str y) => if x.length + y.length ≤ LIM then some (.str (x ++ y)) else none
      | _ => none
    | none => none
/-- an object that nobody else knows, or a datum -/
def bindTo (i : Nat) (o : Bool) (d : D) (s : Sta) : RS :=
  if i < s.σ.length then
    if o then match toCell d with
      | some c => .next { s with σ := s.σ.set i (.own c) }
      | none => .next { s with σ := s.σ.set i (.sh d) }
    else .next { s with σ := s.σ.set i (.sh d) }
  else .stuck
mutual
noncomputable def exec (P : Prog) : S → Sta → RS
  | .set i e, s => (ev P e s).then fun x s1 => bindTo i x.1 x.2 s1
  | .setT t e, s => (ev P e s).then fun x s1 => match assign t x.2 s1.σ with
    | some σ' => .next { s1 with σ := σ' }
    | none => .stuck
  | .aug i op e, s => match s.σ[i]? with
    | some (.sh d) => (ev P e s).then fun y s1 => match augD op d y.2 with
      | some r => bindTo i false r s1
      | none => .stuck
    | _ => .stuck
  | .put o k e, s => (ev P e s).then fun x s1 => (rdPlace o (ev P o) s1).then fun p s2 => (ev P k s2).then fun i s3 => match p.get s3 with
    | some c => match putC c i.2 x.2 with
      | some c' => .next (p.set s3 c')
      | none => .stuck
    | none => .stuck
  | .putA o k op e, s => (rdPlace o (ev P o) s).then fun p s1 => (ev P k s1).then fun i s2 => match p.get s2 with
    | some c => match getC c i.2 with
      | some d => (ev P e s2).then fun y s3 => match augD op d y.2 with
        | some r => match p.get s3 with
          | some c3 => match putC c3 i.2 r with
            | some c' => .next (p.set s3 c')
            | none => .stuck
          | none => .stuck
        | none => .stuck
      | none => .stuck
    | none => .stuck
  | .fset o f e, s => (ev P e s).then fun x s1 => (ev P o s1).then fun y s2 => match y.2 with
    | .ref n => match s2.S[n]? with
      | some (.I c fs) => if fs.length < 900 then .next { s2 with S := s2.S.set n (.I c (putF f x.2 fs)) } else .stuck
      | _ => .stuck
    | _ => .stuck
  | .fsetA o f op e, s => (ev P o s).then fun y s1 => match y.2 with
    | .ref n => match s1.S[n]? with
      | some (.I _ fs) => match lookF f fs with
        | some d => (ev P e s1).then fun z s2 => match augD op d z.2 with
          | some r => match s2.S[n]? with
            | some (.I c fs2) => if fs2.length < 900 then .next { s2 with S := s2.S.set n (.I c (putF f r fs2)) } else .stuck
            | _ => .stuck
          | none => .stuck
        | none => .stuck
      | _ => .stuck
    | _ => .stuck
  | .ret e, s => match e with
    | .v i => match s.σ[i]? with
      | some (.own c) => match c.view with
        | some d => .ret true d s
        | none => .stuck
      | some (.sh d) => .ret false d s
      | _ => .stuck
    | e => (ev P e s).then fun x s1 => .ret x.1 x.2 s1
  | .retN, s => .ret false .non s
  | .ife t a b, s => (evt P t s).then fun c s1 => if c then execs P a s1 else execs P b s1
  | .whl t b, s => whileL (evt P t) (execs P b) s
  | .fr tg it b, s => (evit P it s).then fun ds s1 => forL (fun d s2 => match assign tg d s2.σ with
      | some σ' => execs P b { s2 with σ := σ' }
      | none => .stuck) ds s1
  | .brk, s => .brk s
  | .cnt, s => .cnt s
  | .pass, s => .next s
  | .exp e, s => (ev P e s).then fun _ s1 => .next s1
  | .rais c es, s => (evs P es s).then fun ds s1 => .exn (.mk c ds) s1
  | .tryE b c i su, s => match execs P b s with
    | .exn (.mk c' ds) s1 => if P.sub c' c then match suiteD P c' ds su with
        | some d => if i < s1.σ.length then .ret false d s1 else .stuck
        | none => .stuck
      else .exn (.mk c' ds) s1
    | r => r
noncomputable def execs (P : Prog) : List S → Sta → RS
  | [], s => .next s
  | x :: xs, s => (exec P x s).seq (execs P xs)
end

/-! ### defs -/
structure Fn where
  np : Nat
  ns : Nat
  body : List S
structure Tbl where
  fns : List Fn
  glob : Nat → Option D
  init : Nat → Option Nat
  meth : Nat → Nat → Option Nat
  sub : Nat → Nat → Bool
  flds : Nat → List Nat
mutual
/-- no cell from n on within -/
def D.under (n : Nat) : D → Bool
  | .tup ds => unders n ds
  | .lst ds => unders n ds
  | .dct ks vs => unders n ks && unders n vs
  | .ref m => decide (m < n)
  | _ => true
def unders (n : Nat) : List D → Bool
  | [] => true
  | d :: ds => d.under n && unders n ds
end
def Cell.under (n : Nat) : Cell → Bool
  | .L ds => unders n ds
  | .M ks vs => unders n ks && unders n vs
  | .I _ fs => fs.all fun p => p.2.under n
/-- the cells that nobody reaches any more are forgotten -/
def gc (n : Nat) (ds : List D) (S : List Cell) : List Cell :=
  if S.length = n then S else if unders n ds && (S.take n).all (Cell.under n) then S.take n else S
def fin (n : Nat) : RS → FRes
  | .next s => .ok false .non (gc n [] s.S)
  | .ret o d s => .ok o d (gc n [d] s.S)
  | .exn (.mk c ds) s => .exn (.mk c ds) (gc n ds s.S)
  | _ => .stuck
noncomputable def Phi (t : Tbl) : Nat → Nat → List D → List Cell → FRes
  | 0, _, _, _ => .stuck
  | k + 1, f, ds, S => match t.fns[f]? with
    | none => .stuck
    | some fn => if ds.length = fn.np ∧ fn.np ≤ fn.ns then
        fin S.length (execs ⟨Phi t k, t.glob, t.init, t.meth, t.sub, t.flds⟩ fn.body ⟨ds.map .sh ++ List.replicate (fn.ns - fn.np) .no, S⟩)
      else .stuck
noncomputable def prog (t : Tbl) (k : Nat) : Prog := ⟨Phi t k, t.glob, t.init, t.meth, t.sub, t.flds⟩
end Z

set_option Elab.async false
set_option linter.all false
set_option maxRecDepth 100000
set_option maxHeartbeats 1000000
set_option autoImplicit false
/-! ZRep: how a datum of Z stands in the abstract heap of the hand layer. -/
namespace Z
open PySem PySem.Spec PyProof.Rows L2

abbrev toS (x : List Nat) : Str := ⟨x.toArray⟩
theorem toS_tl (x : List Nat) : (toS x).cps.toList = x := rfl
theorem toS_of (z : Str) : toS z.cps.toList = z := by cases z; simp [toS]
theorem toS_len (x : List Nat) : (toS x).length = x.length := by simp [toS, Str.length]
theorem toS_inj {x y : List Nat} (h : toS x = toS y) : x = y := by
  have := congrArg (fun z : Str => z.cps.toList) h
  simpa [toS] using this

/-- the ghost: the abstract heap, what changes no more, the cells' addresses -/
structure Gh where
  H : Hp
  F : Addr → Prop
  M : List Addr
/-- where the defs and classes stand -/
structure Wo where
  K : PySem.W.Frag
  fa : Nat → Option Addr
  ca : Nat → Option Addr
  xa : Nat → Option Addr
  fl : Nat → Str
def kD : Key → D
  | .inl i => .int i
  | .inr x => .str x.cps.toList
/-- a list from outside -/
def ScL (K : PySem.W.Frag) (G : Gh) (a : Addr) (vs : List V) : Prop :=
  (∃ o, G.H a = some (.frz o (.lst vs))) ∨
    ∃ (o : Obj) (its : Array Value) (n : Nat), K.lookup a = some o ∧ o.cls = .type "list" ∧ o.dict = none ∧ o.data = .seq its n ∧ its.size ≤ sizeLine ∧ Vals vs its.toList
theorem ScL.sq {K : PySem.W.Frag} {G : Gh} {a : Addr} {vs : List V} (h : ScL K G a vs) : SqL K G.H a vs := by
  rcases h with h | h
  · exact .inl (.inr h)
  · exact .inr h
/-- a text: not too long, of signs -/
def TxtOk (x : List Nat) : Prop := x.length ≤ LIM ∧ ∀ c ∈ x, c < 1114112
mutual
def Rep (W : Wo) (G : Gh) : D → V → Prop
  | .non, v => v = .non
  | .bl b, v => v = .bl b
  | .int i, v => v = .int i
  | .str x, v => v = .str (toS x) ∧ TxtOk x
  | .tup ds, v => ∃ a vs, v = .ref a ∧ SqT W.K G.H a vs ∧ Reps W G ds vs
  | .lst ds, v => ∃ a vs, v = .ref a ∧ G.F a ∧ G.H a = some (.lst vs) ∧ Reps W G ds vs
  | .scr ns, v => ∃ a, v = .ref a ∧ ScL W.K G a (ns.map V.int)
  | .dct ks us, v => ∃ a kvs, v = .ref a ∧ G.F a ∧ G.H a = some (.dK kvs) ∧ ks = kvs.map (fun p => kD p.1) ∧ Reps W G us (kvs.map (·.2))
  | .ref n, v => ∃ a, v = .ref a ∧ G.M[n]? = some a
  | .fn f, v => ∃ a, v = .ref a ∧ W.fa f = some a
def Reps (W : Wo) (G : Gh) : List D → List V → Prop
  | [], vs => vs = []
  | d :: ds, vs => ∃ v r, vs = v :: r ∧ Rep W G d v ∧ Reps W G ds r
end
def FRep (W : Wo) (G : Gh) : List (Nat × D) → List (Str × V) → Prop
  | [], vs => vs = []
  | (f, d) :: r, vs => ∃ v vr, vs = (W.fl f, v) :: vr ∧ Rep W G d v ∧ FRep W G r vr
def CRep (W : Wo) (G : Gh) (c : Cell) (a : Addr) : Prop := match c with
  | .L ds => ∃ vs, G.H a = some (.lst vs) ∧ Reps W G ds vs
  | .M ks us => ∃ kvs, G.H a = some (.dK kvs) ∧ ks = kvs.map (fun p => kD p.1) ∧ Reps W G us (kvs.map (·.2))
  | .I c fs => ∃ C dx fvs, W.ca c = some C ∧ G.H a = some (.ins C dx fvs) ∧ FRep W G fs fvs
def imm : HO → Bool
  | .tup _ => true
  | .frz _ _ => true
  | _ => false
structure Keep (G G' : Gh) : Prop where
  im : ∀ a o, G.H a = some o → imm o = true → G'.H a = some o
  fz : ∀ a, G.F a → G'.F a ∧ G'.H a = G.H a
  mm : ∀ (n : Nat) (a : Addr), G.M[n]? = some a → G'.M[n]? = some a
theorem Keep.refl (G : Gh) : Keep G G := ⟨fun _ _ e _ => e, fun _ h => ⟨h, rfl⟩, fun _ _ e => e⟩
theorem Keep.trans {G G1 G2 : Gh} (a : Keep G G1) (b : Keep G1 G2) : Keep G G2 :=
  ⟨fun x o e h => b.im x o (a.im x o e h) h, fun x h => ⟨(b.fz x (a.fz x h).1).1, (b.fz x (a.fz x h).1).2.trans (a.fz x h).2⟩, fun n x e => b.mm n x (a.mm n x e)⟩
section
variable {W : Wo} {G G' : Gh}
theorem sqT_keep (k : Keep G G') {a : Addr} {vs : List V} (h : SqT W.K G.H a vs) : SqT W.K G'.H a vs := by
  rcases h with (h | ⟨o, h⟩) | h
  · exact .inl (.inl (k.im _ _ h rfl))
  · exact .inl (.inr ⟨o, k.im _ _ h rfl⟩)
  · exact .inr h
theorem scL_keep (k : Keep G G') {a : Addr} {vs : List V} (h : ScL W.K G a vs) : ScL W.K G' a vs := by
  rcases h with ⟨o, h⟩ | h
  · exact .inl ⟨o, k.im _ _ h rfl⟩
  · exact .inr h
mutual
theorem Rep.keep (k : Keep G G') : ∀ (d : D) (v : V), Rep W G d v → Rep W G' d v
  | .non, _, h => h
  | .bl _, _, h => h
  | .int _, _, h => h
  | .str _, _, h => h
  | .tup ds, v, h => by
    simp only [Rep] at h ⊢
    obtain ⟨a, vs, e, s, r⟩ := h
    exact ⟨a, vs, e, sqT_keep k s, Reps.keep k ds vs r⟩
  | .lst ds, v, h => by
    simp only [Rep] at h ⊢
    obtain ⟨a, vs, e, f, s, r⟩ := h
    exact ⟨a, vs, e, (k.fz a f).1, (k.fz a f).2.trans s, Reps.keep k ds vs r⟩
  | .scr ns, v, h => by
    simp only [Rep] at h ⊢
    obtain ⟨a, e, s⟩ := h
    exact ⟨a, e, scL_keep k s⟩
  | .dct ks us, v, h => by
    simp only [Rep] at h ⊢
    obtain ⟨a, kvs, e, f, s, q, r⟩ := h
    exact ⟨a, kvs, e, (k.fz a f).1, (k.fz a f).2.trans s, q, Reps.keep k us _ r⟩
  | .ref n, v, h => by
    simp only [Rep] at h ⊢
    obtain ⟨a, e, s⟩ := h
    exact ⟨a, e, k.mm n a s⟩
  | .fn f, v, h => by
    simp only [Rep] at h ⊢
    exact h
theorem Reps.keep (k : Keep G G') : ∀ (ds : List D) (vs : List V), Reps W G ds vs → Reps W G' ds vs
  | [], _, h => h
  | d :: ds, vs, h => by
    simp only [Reps] at h ⊢
    obtain ⟨v, r, e, h1, h2⟩ := h
    exact ⟨v, r, e, Rep.keep k d v h1, Reps.keep k ds r h2⟩
end
theorem FRep.keep (k : Keep G G') : ∀ (fs : List (Nat × D)) (vs : List (Str × V)), FRep W G fs vs → FRep W G' fs vs
  | [], _, h => h
  | (f, d) :: r, vs, h => by
    obtain ⟨v, vr, e, h1, h2⟩ := h
    exact ⟨v, vr, e, Rep.keep k d v h1, FRep.keep k r vr h2⟩
theorem CRep.keep (k : Keep G G') {c : Cell} {a : Addr} (ha : G'.H a = G.H a) (h : CRep W G c a) : CRep W G' c a := by
  cases c with
  | L ds =>
    obtain ⟨vs, e, r⟩ := h
    exact ⟨vs, ha.trans e, Reps.keep k _ _ r⟩
  | M ks us =>
    obtain ⟨kvs, e, q, r⟩ := h
    exact ⟨kvs, ha.trans e, q, Reps.keep k _ _ r⟩
  | I c fs =>
    obtain ⟨C, dx, fvs, e0, e, r⟩ := h
    exact ⟨C, dx, fvs, e0, ha.trans e, FRep.keep k _ _ r⟩
theorem CRep.there {c : Cell} {a : Addr} (h : CRep W G c a) : ∃ o, G.H a = some o ∧ imm o = false := by
  cases c with
  | L ds => obtain ⟨vs, e, r⟩ := h; exact ⟨_, e, rfl⟩
  | M ks us => obtain ⟨kvs, e, q, r⟩ := h; exact ⟨_, e, rfl⟩
  | I c fs => obtain ⟨C, dx, fvs, e0, e, r⟩ := h; exact ⟨_, e, rfl⟩
theorem Reps.len : ∀ {ds : List D} {vs : List V}, Reps W G ds vs → vs.length = ds.length
  | [], _, h => by simp only [Reps] at h; subst h; rfl
  | d :: ds, vs, h => by
    simp only [Reps] at h
    obtain ⟨v, r, e, h1, h2⟩ := h
    subst e
    simp only [List.length_cons, Reps.len h2]
theorem Reps.get : ∀ {ds : List D} {vs : List V} {i : Nat} {d : D}, Reps W G ds vs → ds[i]? = some d → ∃ v, vs[i]? = some v ∧ Rep W G d v
  | [], _, _, _, h, e => by simp at e
  | d :: ds, vs, 0, x, h, e => by
    simp only [Reps] at h
    obtain ⟨v, r, e', h1, h2⟩ := h
    subst e'
    simp at e; subst e
    exact ⟨v, rfl, h1⟩
  | d :: ds, vs, i + 1, x, h, e => by
    simp only [Reps] at h
    obtain ⟨v, r, e', h1, h2⟩ := h
    subst e'
    obtain ⟨u, h3, h4⟩ := Reps.get (i := i) h2 (by simpa using e)
    exact ⟨u, by simpa using h3, h4⟩
theorem Reps.append : ∀ {ds es : List D} {vs us : List V}, Reps W G ds vs → Reps W G es us → Reps W G (ds ++ es) (vs ++ us)
  | [], _, _, _, h, h' => by simp only [Reps] at h; subst h; exact h'
  | d :: ds, es, vs, us, h, h' => by
    simp only [Reps] at h
    obtain ⟨v, r, e, h1, h2⟩ := h
    subst e
    simp only [List.cons_append, Reps]
    exact ⟨v, r ++ us, rfl, h1, Reps.append h2 h'⟩
theorem Reps.one {d : D} {v : V} (h : Rep W G d v) : Reps W G [d] [v] := by simp only [Reps]; exact ⟨v, [], rfl, h, rfl⟩
theorem Reps.take : ∀ {ds : List D} {vs : List V} (n : Nat), Reps W G ds vs → Reps W G (ds.take n) (vs.take n)
  | _, _, 0, _ => by simp [Reps]
  | [], _, n + 1, h => by simp only [Reps] at h; subst h; simp [Reps]
  | d :: ds, vs, n + 1, h => by
    simp only [Reps] at h
    obtain ⟨v, r, e, h1, h2⟩ := h
    subst e
    simp only [List.take_succ_cons, Reps]
    exact ⟨v, _, rfl, h1, Reps.take n h2⟩
theorem Reps.drop : ∀ {ds : List D} {vs : List V} (n : Nat), Reps W G ds vs → Reps W G (ds.drop n) (vs.drop n)
  | _, _, 0, h => h
  | [], _, n + 1, h => by simp only [Reps] at h; subst h; simp [Reps]
  | d :: ds, vs, n + 1, h => by
    simp only [Reps] at h
    obtain ⟨v, r, e, h1, h2⟩ := h
    subst e
    exact Reps.drop n h2
theorem Reps.set : ∀ {ds : List D} {vs : List V} (n : Nat) {d : D} {v : V}, Reps W G ds vs → Rep W G d v → Reps W G (ds.set n d) (vs.set n v)
  | [], _, n, d, v, h, _ => by simp only [Reps] at h; subst h; simp [Reps]
  | x :: ds, vs, 0, d, v, h, hd => by
    simp only [Reps] at h
    obtain ⟨u, r, e, h1, h2⟩ := h
    subst e
    simp only [List.set_cons_zero, Reps]
    exact ⟨v, r, rfl, hd, h2⟩
  | x :: ds, vs, n + 1, d, v, h, hd => by
    simp only [Reps] at h
    obtain ⟨u, r, e, h1, h2⟩ := h
    subst e
    simp only [List.set_cons_succ, Reps]
    exact ⟨u, _, rfl, h1, Reps.set n h2 hd⟩
theorem Reps.reverse : ∀ {ds : List D} {vs : List V}, Reps W G ds vs → Reps W G ds.reverse vs.reverse
  | [], _, h => by simp only [Reps] at h; subst h; simp [Reps]
  | d :: ds, vs, h => by
    simp only [Reps] at h
    obtain ⟨v, r, e, h1, h2⟩ := h
    subst e
    simp only [List.reverse_cons]
    exact Reps.append (Reps.reverse h2) (Reps.one h1)
end

/-! ### the state -/
def SlotRep (W : Wo) (G : Gh) (s : Slot) (v : Option V) (o : Option Addr) : Prop := match s with
  | .no => o = none
  | .sh d => o = none ∧ ∃ x, v = some x ∧ Rep W G d x
  | .own c => ∃ a, o = some a ∧ v = some (.ref a) ∧ CRep W G c a ∧ ¬ G.F a
structure StRep (W : Wo) (G : Gh) (s : Sta) (σ : L2.St) (O : List (Option Addr)) : Prop where
  len : σ.length = s.σ.length
  lenO : O.length = s.σ.length
  slots : ∀ (i : Nat) (x : Slot), s.σ[i]? = some x → ∃ (v : Option V) (o : Option Addr), σ[i]? = some v ∧ O[i]? = some o ∧ SlotRep W G x v o
  lenM : G.M.length = s.S.length
  cells : ∀ (n : Nat) (c : Cell), s.S[n]? = some c → ∃ (a : Addr), G.M[n]? = some a ∧ CRep W G c a ∧ ¬ G.F a
  nd : (O.filterMap id ++ G.M).Nodup
  dom : ∀ a, G.F a → ∃ o, G.H a = some o
abbrev ow (O : List (Option Addr)) : List Addr := O.filterMap id
structure Frm (G : Gh) (o : List Addr) (G' : Gh) (o' : List Addr) : Prop where
  keep : Keep G G'
  rest : ∀ a x, G.H a = some x → a ∉ o → a ∉ G.M → G'.H a = some x
  fz : ∀ a, G'.F a → G.F a ∨ a ∈ o ∨ G.H a = none
  ow : ∀ a, a ∈ o' → a ∈ o ∨ G.H a = none
  mm : ∀ a, a ∈ G'.M → a ∈ G.M ∨ a ∈ o ∨ G.H a = none
  dm : ∀ a x, G.H a = some x → ∃ y, G'.H a = some y
theorem Frm.refl (G : Gh) (o : List Addr) : Frm G o G o := ⟨.refl G, fun _ _ e _ _ => e, fun _ h => .inl h, fun _ h => .inl h, fun _ h => .inl h, fun _ x e => ⟨x, e⟩⟩
theorem Frm.trans {G G1 G2 : Gh} {o o1 o2 : List Addr} (a : Frm G o G1 o1) (b : Frm G1 o1 G2 o2) : Frm G o G2 o2 := by
  have back : ∀ x, G1.H x = none → G.H x = none := fun x h => by
    cases e : G.H x with
    | none => rfl
    | some y => obtain ⟨z, hz⟩ := a.dm x y e; rw [h] at hz; cases hz
  refine ⟨a.keep.trans b.keep, fun x y e h1 h2 => b.rest x y (a.rest x y e h1 h2) (fun h => ?_) (fun h => ?_), fun x h => ?_, fun x h => ?_, fun x h => ?_, fun x y e => ?_⟩
  · rcases a.ow x h with h | h
    · exact h1 h
    · rw [e] at h; cases h
  · rcases a.mm x h with h | h | h
    · exact h2 h
    · exact h1 h
    · rw [e] at h; cases h
  · rcases b.fz x h with h | h | h
    · exact a.fz x h
    · exact .inr (a.ow x h)
    · exact .inr (.inr (back x h))
  · rcases b.ow x h with h | h
    · exact a.ow x h
    · exact .inr (back x h)
  · rcases b.mm x h with h | h | h
    · exact a.mm x h
    · exact .inr (a.ow x h)
    · exact .inr (.inr (back x h))
  · obtain ⟨z, hz⟩ := a.dm x y e
    exact b.dm x z hz
/-- only new objects -/
structure Ext (G G' : Gh) : Prop where
  h : ∀ a o, G.H a = some o → G'.H a = some o
  f : ∀ a, G.F a → G'.F a
  f' : ∀ a, G'.F a → G.F a ∨ (G.H a = none ∧ ∃ o, G'.H a = some o)
  m : G'.M = G.M
theorem Ext.refl (G : Gh) : Ext G G := ⟨fun _ _ e => e, fun _ h => h, fun _ h => .inl h, rfl⟩
theorem Ext.trans {G G1 G2 : Gh} (a : Ext G G1) (b : Ext G1 G2) : Ext G G2 := by
  refine ⟨fun x o e => b.h x o (a.h x o e), fun x h => b.f x (a.f x h), fun x h => ?_, b.m.trans a.m⟩
  have back : G1.H x = none → G.H x = none := fun h => by
    cases e : G.H x with
    | none => rfl
    | some y => rw [a.h x y e] at h; cases h
  rcases b.f' x h with h | ⟨h, y⟩
  · rcases a.f' x h with h | ⟨h, o, y⟩
    · exact .inl h
    · exact .inr ⟨h, o, b.h x o y⟩
  · exact .inr ⟨back h, y⟩
theorem Ext.keep {G G' : Gh} {W : Wo} (e : Ext G G') (dom : ∀ a, G.F a → ∃ o, G.H a = some o) : Keep G G' :=
  ⟨fun a o h _ => e.h a o h, fun a h => ⟨e.f a h, by obtain ⟨o, q⟩ := dom a h; rw [q]; exact e.h a o q⟩, fun n a h => by rw [e.m]; exact h⟩
section
variable {W : Wo} {G G' : Gh} {s : Sta} {σ : L2.St} {O : List (Option Addr)}
theorem StRep.kept (r : StRep W G s σ O) (e : Ext G G') : Keep G G' := e.keep (W := W) r.dom
theorem CRep.ext {c : Cell} {a : Addr} (r : StRep W G s σ O) (e : Ext G G') (h : CRep W G c a) : CRep W G' c a := by
  obtain ⟨o, q, _⟩ := h.there
  exact h.keep (r.kept e) ((e.h a o q).trans q.symm)
theorem StRep.ext (r : StRep W G s σ O) (e : Ext G G') : StRep W G' s σ O := by
  have k := r.kept e
  have nf : ∀ {c : Cell} {a : Addr}, CRep W G c a → ¬ G.F a → ¬ G'.F a := fun {c a} h n z => by
    obtain ⟨o, q, _⟩ := h.there
    rcases e.f' a z with z | ⟨z, _⟩
    · exact n z
    · rw [q] at z; cases z
  refine ⟨r.len, r.lenO, fun i x hx => ?_, by rw [e.m]; exact r.lenM, fun n c h => ?_, by rw [e.m]; exact r.nd, fun a h => ?_⟩
  · obtain ⟨v, o, h1, h2, h3⟩ := r.slots i x hx
    refine ⟨v, o, h1, h2, ?_⟩
    cases x with
    | no => exact h3
    | sh d => obtain ⟨q, y, e1, e2⟩ := h3; exact ⟨q, y, e1, Rep.keep k d y e2⟩
    | own c => obtain ⟨a, e1, e2, e3, e4⟩ := h3; exact ⟨a, e1, e2, e3.ext r e, nf e3 e4⟩
  · obtain ⟨a, h1, h2, h3⟩ := r.cells n c h
    exact ⟨a, by rw [e.m]; exact h1, h2.ext r e, nf h2 h3⟩
  · rcases e.f' a h with h | ⟨_, h⟩
    · obtain ⟨o, q⟩ := r.dom a h
      exact ⟨o, e.h a o q⟩
    · exact h
theorem StRep.fr (r : StRep W G s σ O) (e : Ext G G') : Frm G (ow O) G' (ow O) :=
  ⟨r.kept e, fun a x h _ _ => e.h a x h, fun a h => (e.f' a h).elim .inl fun z => .inr (.inr z.1), fun _ h => .inl h, fun a h => .inl (by rw [e.m] at h; exact h), fun a x h => ⟨x, e.h a x h⟩⟩
end
end Z

set_option Elab.async false
set_option linter.all false
set_option maxRecDepth 100000
set_option maxHeartbeats 1000000
set_option autoImplicit false
/-! ZOut: readings by the interpreter's answer. -/
namespace Z
open PySem PySem.Spec PyProof.Rows L2

/-- an exception as its class's address and its own dict -/
def XRep (W : Wo) (G : Gh) (x : Exn) (cls : Value) (dx : Option Addr) : Prop := match x with
  | .mk c ds => ∃ C, W.xa c = some C ∧ cls = .ref C ∧ ((dx = none ∧ ds = []) ∨ ∃ d fvs, dx = some d ∧ ds ≠ [] ∧ G.H d = some (.xd fvs) ∧ Reps W G ds (fvs.map (·.2)))
def Out {α β : Type} (W : Wo) (wx : WX) (G : Gh) (O : List (Option Addr)) (σ : L2.St) (R : Gh → List (Option Addr) → Gh → List (Option Addr) → Sta → α → β → Prop) (Q : β → Hp → Prop) : Res α → Prop
  | .ok a s' => ∀ b G' O', Frm G (ow O) G' (ow O') → StRep W G' s' σ O' → R G O G' O' s' a b → Q b G'.H
  | .exn x s' => ∀ G' O', Frm G (ow O) G' (ow O') → StRep W G' s' σ O' → ∀ cls dx, XRep W G' x cls dx → wx cls dx σ G'.H
  | .stuck => False
/-- the relation's base may move on -/
def Mono {α β : Type} (R : Gh → List (Option Addr) → Gh → List (Option Addr) → Sta → α → β → Prop) : Prop :=
  ∀ G O G1 O1 G2 O2 s a b, Frm G (ow O) G1 (ow O1) → R G1 O1 G2 O2 s a b → R G O G2 O2 s a b
section
variable {α β γ : Type} {W : Wo} {wx : WX} {G G1 : Gh} {O O1 : List (Option Addr)} {σ : L2.St} {R : Gh → List (Option Addr) → Gh → List (Option Addr) → Sta → α → β → Prop} {Q : β → Hp → Prop}
theorem Out.shift (m : Mono R) (f : Frm G (ow O) G1 (ow O1)) {r : Res α} (h : Out W wx G O σ R Q r) : Out W wx G1 O1 σ R Q r := by
  cases r with
  | ok a s => exact fun b G' O' fr sr rr => h b G' O' (f.trans fr) sr (m _ _ _ _ _ _ _ _ _ f rr)
  | exn x s => exact fun G' O' fr sr => h G' O' (f.trans fr) sr
  | stuck => exact h
theorem Out.bind {δ : Type} {R1 : Gh → List (Option Addr) → Gh → List (Option Addr) → Sta → γ → δ → Prop} {Q1 : δ → Hp → Prop} (m : Mono R) {r : Res γ} {k : γ → Sta → Res α} (h : Out W wx G O σ R Q (r.bind k))
    (hk : ∀ a s1, r = .ok a s1 → ∀ b G1 O1, Frm G (ow O) G1 (ow O1) → StRep W G1 s1 σ O1 → R1 G O G1 O1 s1 a b → Out W wx G1 O1 σ R Q (k a s1) → Q1 b G1.H) : Out W wx G O σ R1 Q1 r := by
  cases r with
  | ok a s => exact fun b G1 O1 fr sr rr => hk a s rfl b G1 O1 fr sr rr (Out.shift m fr h)
  | exn x s => exact h
  | stuck => exact h
end
/-! ### relations -/
def fresh (G : Gh) (O : List (Option Addr)) (a : Addr) : Prop := a ∈ ow O ∨ G.H a = none
def OwnRep (W : Wo) (G : Gh) (O : List (Option Addr)) (G' : Gh) (O' : List (Option Addr)) (d : D) (v : V) : Prop :=
  ∃ c a, toCell d = some c ∧ v = .ref a ∧ CRep W G' c a ∧ ¬ G'.F a ∧ a ∉ ow O' ∧ a ∉ G'.M ∧ fresh G O a
def RO (W : Wo) (G : Gh) (O : List (Option Addr)) (G' : Gh) (O' : List (Option Addr)) (_ : Sta) (x : Bool × D) (v : V) : Prop :=
  if x.1 = true then OwnRep W G O G' O' x.2 v else Rep W G' x.2 v
def RV (W : Wo) (G : Gh) (O : List (Option Addr)) (G' : Gh) (O' : List (Option Addr)) (_ : Sta) (x : Bool × D) (v : V) : Prop := Rep W G' x.2 v
def ARep (W : Wo) (σ : L2.St) (G : Gh) (x : Arg) (v : V) : Prop := match x with
  | .val d => Rep W G d v
  | .slot i => σ[i]? = some (some v)
def RA (W : Wo) (σ : L2.St) (G : Gh) (O : List (Option Addr)) (G' : Gh) (O' : List (Option Addr)) (_ : Sta) (x : Arg) (v : V) : Prop := ARep W σ G' x v
def RB (G : Gh) (O : List (Option Addr)) (G' : Gh) (O' : List (Option Addr)) (_ : Sta) (x : Bool) (b : Bool) : Prop := x = b
def RVs (W : Wo) (G : Gh) (O : List (Option Addr)) (G' : Gh) (O' : List (Option Addr)) (_ : Sta) (x : List D) (vs : List V) : Prop := Reps W G' x vs
def AReps (W : Wo) (σ : L2.St) (G : Gh) : List Arg → List V → Prop
  | [], vs => vs = []
  | x :: xs, vs => ∃ v r, vs = v :: r ∧ ARep W σ G x v ∧ AReps W σ G xs r
def RAs (W : Wo) (σ : L2.St) (G : Gh) (O : List (Option Addr)) (G' : Gh) (O' : List (Option Addr)) (_ : Sta) (x : List Arg) (vs : List V) : Prop := AReps W σ G' x vs
theorem fresh.mono {G G1 : Gh} {O O1 : List (Option Addr)} {a : Addr} (f : Frm G (ow O) G1 (ow O1)) (h : fresh G1 O1 a) : fresh G O a := by
  rcases h with h | h
  · exact f.ow a h
  · right
    cases e : G.H a with
    | none => rfl
    | some x =>
      obtain ⟨y, q⟩ := f.dm a x e
      rw [h] at q; cases q
section
variable {W : Wo} {σ : L2.St}
theorem mono_RO : Mono (RO W) := fun G O G1 O1 G2 O2 s x v f h => by
  unfold RO at h ⊢
  split
  · rename_i e
    rw [if_pos e] at h
    obtain ⟨c, a, h1, h2, h3, h4, h5, h6, h7⟩ := h
    exact ⟨c, a, h1, h2, h3, h4, h5, h6, h7.mono f⟩
  · rename_i e
    rw [if_neg e] at h
    exact h
theorem mono_RV : Mono (RV W) := fun _ _ _ _ _ _ _ _ _ _ h => h
theorem mono_RA : Mono (RA W σ) := fun _ _ _ _ _ _ _ _ _ _ h => h
theorem mono_RB : Mono RB := fun _ _ _ _ _ _ _ _ _ _ h => h
theorem mono_RVs : Mono (RVs W) := fun _ _ _ _ _ _ _ _ _ _ h => h
theorem mono_RAs : Mono (RAs W σ) := fun _ _ _ _ _ _ _ _ _ _ h => h
end
/-- what nobody else knows is shown: it changes no more -/
theorem OwnRep.freeze {W : Wo} {G G' : Gh} {O O' : List (Option Addr)} {s : Sta} {σ : L2.St} {d : D} {v : V} (f : Frm G (ow O) G' (ow O')) (r : StRep W G' s σ O') (h : OwnRep W G O G' O' d v) :
    ∃ G2 : Gh, G2.H = G'.H ∧ Frm G (ow O) G2 (ow O') ∧ StRep W G2 s σ O' ∧ Rep W G2 d v := by
  obtain ⟨c, a, h1, h2, h3, h4, h5, h6, h7⟩ := h
  let G2 : Gh := ⟨G'.H, fun b => G'.F b ∨ b = a, G'.M⟩
  have k : Keep G' G2 := ⟨fun _ _ e _ => e, fun b hb => ⟨.inl hb, rfl⟩, fun _ _ e => e⟩
  obtain ⟨oa, ha, _⟩ := h3.there
  have nf : ∀ {b : Addr}, b ≠ a → ¬ G'.F b → ¬ G2.F b := fun ne n z => z.elim n ne
  refine ⟨G2, rfl, ⟨f.keep.trans k, f.rest, fun b hb => ?_, f.ow, f.mm, f.dm⟩, ⟨r.len, r.lenO, fun i x hx => ?_, r.lenM, fun n c' hc => ?_, r.nd, fun b hb => ?_⟩, ?_⟩
  · rcases hb with hb | rfl
    · exact f.fz b hb
    · exact .inr h7
  · obtain ⟨v', o', e1, e2, e3⟩ := r.slots i x hx
    refine ⟨v', o', e1, e2, ?_⟩
    cases x with
    | no => exact e3
    | sh d' => obtain ⟨q, y, q1, q2⟩ := e3; exact ⟨q, y, q1, Rep.keep k d' y q2⟩
    | own c' =>
      obtain ⟨b, q1, q2, q3, q4⟩ := e3
      refine ⟨b, q1, q2, q3.keep k rfl, nf (fun z => h5 ?_) q4⟩
      rw [← z]
      exact List.mem_filterMap.mpr ⟨o', List.mem_of_getElem? e2, by rw [q1]; rfl⟩
  · obtain ⟨b, q1, q2, q3⟩ := r.cells n c' hc
    exact ⟨b, q1, q2.keep k rfl, nf (fun z => h6 (z ▸ List.mem_of_getElem? q1)) q3⟩
  · rcases hb with hb | rfl
    · exact r.dom b hb
    · exact ⟨oa, ha⟩
  · subst h2
    cases d with
    | lst ds =>
      cases h1
      obtain ⟨vs, e, q⟩ := h3
      simp only [Rep]
      exact ⟨a, vs, rfl, .inr rfl, e, Reps.keep k ds vs q⟩
    | dct ks us =>
      cases h1
      obtain ⟨kvs, e, q1, q⟩ := h3
      simp only [Rep]
      exact ⟨a, kvs, rfl, .inr rfl, e, q1, Reps.keep k us _ q⟩
    | _ => cases h1

/-! ### readings -/
def tZ {α β : Type} (W : Wo) (wx : WX) (R : L2.St → Gh → List (Option Addr) → Gh → List (Option Addr) → Sta → α → β → Prop) (f : Sta → Res α) (σ : L2.St) (H : Hp) (Q : β → Hp → Prop) : Prop :=
  ∃ (G : Gh) (O : List (Option Addr)) (s : Sta), G.H = H ∧ StRep W G s σ O ∧ Out W wx G O σ (R σ) Q (f s)
abbrev tE (W : Wo) (wx : WX) (f : Sta → Res (Bool × D)) : TE := tZ W wx (fun _ => RO W) f
abbrev tV (W : Wo) (wx : WX) (f : Sta → Res (Bool × D)) : TE := tZ W wx (fun _ => RV W) f
abbrev tR (W : Wo) (wx : WX) (f : Sta → Res Arg) : TE := tZ W wx (fun σ => RA W σ) f
abbrev tB (W : Wo) (wx : WX) (f : Sta → Res Bool) : TT := tZ W wx (fun _ => RB) f
abbrev tVs (W : Wo) (wx : WX) (f : Sta → Res (List D)) : TA := tZ W wx (fun _ => RVs W) f
abbrev tRs (W : Wo) (wx : WX) (f : Sta → Res (List Arg)) : TA := tZ W wx (fun σ => RAs W σ) f
section
variable {W : Wo} {wx : WX}
/-- value reading from the own one -/
theorem tE_of {f : Sta → Res (Bool × D)} {σ : L2.St} {H : Hp} {Q : VK} (h : tV W wx f σ H Q) : tE W wx f σ H Q := by
  obtain ⟨G, O, s, e, r, h⟩ := h
  refine ⟨G, O, s, e, r, ?_⟩
  cases q : f s with
  | stuck => rw [q] at h; exact h
  | exn x s1 => rw [q] at h; exact h
  | ok a s1 =>
    rw [q] at h
    intro v G' O' fr sr rr
    by_cases b : a.1 = true
    · have rr : OwnRep W G O G' O' a.2 v := by
        unfold RO at rr; rw [if_pos b] at rr; exact rr
      obtain ⟨G2, e2, f2, r2, p2⟩ := rr.freeze fr sr
      rw [← e2]
      exact h v G2 O' f2 r2 p2
    · have rr : Rep W G' a.2 v := by
        unfold RO at rr; rw [if_neg b] at rr; exact rr
      exact h v G' O' fr sr rr
theorem pe_weak {X : Cx} {e : Expr} {t t' : TE} (h : PE X e t) (w : ∀ σ H Q, t' σ H Q → t σ H Q) : PE X e t' := ⟨fun pins s σ H Q I q => h.run pins s σ H Q I (w σ H Q q)⟩
theorem pt_weak {X : Cx} {e : Expr} {t t' : TT} (h : PT X e t) (w : ∀ σ H Q, t' σ H Q → t σ H Q) : PT X e t' := ⟨fun pins s σ H Q I q => h.run pins s σ H Q I (w σ H Q q)⟩
theorem pa_weak {X : Cx} {e : List Expr} {t t' : TA} (h : PA X e t) (w : ∀ σ H Q, t' σ H Q → t σ H Q) : PA X e t' := ⟨fun pos pins s σ H Q I q => h.run pos pins s σ H Q I (w σ H Q q)⟩
theorem ps_weak {X : Cx} {e : Stmt} {t t' : TS} (h : PS X e t) (w : ∀ D σ H, t' D σ H → t D σ H) : PS X e t' := ⟨fun pins s σ H D I q => h.run pins s σ H D I (w D σ H q)⟩
theorem pss_weak {X : Cx} {e : List Stmt} {t t' : TS} (h : PSs X e t) (w : ∀ D σ H, t' D σ H → t D σ H) : PSs X e t' := ⟨fun pins s σ H D I q => h.run pins s σ H D I (w D σ H q)⟩
theorem pv_of {X : Cx} {e : Expr} {f : Sta → Res (Bool × D)} (h : PE X e (tE W wx f)) : PE X e (tV W wx f) := pe_weak h fun _ _ _ => tE_of

/-! ### a value that is only looked at -/
def RepW (W : Wo) (G : Gh) : D → V → Prop
  | .lst ds, v => ∃ a vs, v = .ref a ∧ G.H a = some (.lst vs) ∧ Reps W G ds vs
  | .dct ks us, v => ∃ a kvs, v = .ref a ∧ G.H a = some (.dK kvs) ∧ ks = kvs.map (fun p => kD p.1) ∧ Reps W G us (kvs.map (·.2))
  | d, v => Rep W G d v
theorem Rep.w {G : Gh} {d : D} {v : V} (h : Rep W G d v) : RepW W G d v := by
  cases d with
  | lst ds =>
    simp only [Rep] at h
    obtain ⟨a, vs, e, f, s, r⟩ := h
    exact ⟨a, vs, e, s, r⟩
  | dct ks us =>
    simp only [Rep] at h
    obtain ⟨a, vs, e, f, r1, r2, r⟩ := h
    exact ⟨a, vs, e, r1, r2, r⟩
  | _ => exact h
theorem CRep.w {G : Gh} {c : Cell} {a : Addr} {d : D} (h : CRep W G c a) (e : c.view = some d) : RepW W G d (.ref a) := by
  cases c with
  | L ds =>
    cases e
    obtain ⟨vs, q, r⟩ := h
    exact ⟨a, vs, rfl, q, r⟩
  | M ks us =>
    cases e
    obtain ⟨kvs, q, q1, r⟩ := h
    exact ⟨a, kvs, rfl, q, q1, r⟩
  | I c fs => cases e
theorem deref_w {G : Gh} {s : Sta} {σ : L2.St} {O : List (Option Addr)} (r : StRep W G s σ O) {d d' : D} {v : V} (h : Rep W G d v) (e : derefS s.S d = some d') : RepW W G d' v := by
  cases d with
  | ref n =>
    simp only [derefS] at e
    cases q : s.S[n]? with
    | none => rw [q] at e; cases e
    | some c =>
      rw [q] at e
      obtain ⟨a, h1, h2, h3⟩ := r.cells n c q
      simp only [Rep] at h
      obtain ⟨b, rfl, hb⟩ := h
      rw [h1] at hb; cases hb
      exact h2.w e
  | _ => simp only [derefS, Option.some.injEq] at e; subst e; exact h.w
theorem arg_w {G G0 : Gh} {s : Sta} {σ : L2.St} {O O0 : List (Option Addr)} (r : StRep W G s σ O) {x : Arg} {d : D} {v : V} (h : RA W σ G0 O0 G O s x v) (e : x.get s = some d) : RepW W G d v := by
  cases x with
  | val y => exact deref_w r h e
  | slot i =>
    have h : σ[i]? = some (some v) := h
    simp only [Arg.get] at e
    cases q : s.σ[i]? with
    | none => rw [q] at e; cases e
    | some x =>
      rw [q] at e
      obtain ⟨v', o, h1, h2, h3⟩ := r.slots i x q
      rw [h] at h1; cases h1
      cases x with
      | no => cases e
      | sh y =>
        obtain ⟨_, z, hz, rz⟩ := h3
        cases hz
        exact deref_w r rz e
      | own c =>
        obtain ⟨a, _, hz, rc, _⟩ := h3
        cases hz
        exact rc.w e
def RepsW (W : Wo) (G : Gh) : List D → List V → Prop
  | [], vs => vs = []
  | d :: ds, vs => ∃ v r, vs = v :: r ∧ RepW W G d v ∧ RepsW W G ds r
theorem args_w {G : Gh} {s : Sta} {σ : L2.St} {O : List (Option Addr)} (r : StRep W G s σ O) : ∀ {xs : List Arg} {ds : List D} {vs : List V}, AReps W σ G xs vs → getAll s xs = some ds → RepsW W G ds vs
  | [], ds, vs, h, e => by
    simp only [getAll, Option.some.injEq] at e
    subst e
    exact h
  | x :: xs, ds, vs, h, e => by
    obtain ⟨v, vr, rfl, h1, h2⟩ := h
    simp only [getAll] at e
    cases q : x.get s with
    | none => rw [q] at e; cases e
    | some d =>
      cases q2 : getAll s xs with
      | none => rw [q, q2] at e; cases e
      | some dr =>
        rw [q, q2] at e
        cases e
        exact ⟨v, vr, rfl, arg_w (G0 := G) (O0 := O) r h1 q, args_w r h2 q2⟩

/-! ### the end of an operation -/
/-- a new value: a datum, or a fresh object -/
def NewRep (W : Wo) (G G' : Gh) (o : Bool) (d : D) (v : V) : Prop :=
  if o = true then ∃ c a, toCell d = some c ∧ v = .ref a ∧ CRep W G' c a ∧ ¬ G'.F a ∧ G.H a = none ∧ G'.H a ≠ none else Rep W G' d v
def Kont (W : Wo) (G : Gh) (Q : VK) (o : Bool) (d : D) : Prop := ∀ v G', Ext G G' → NewRep W G G' o d v → Q v G'.H
theorem Kont.same {G : Gh} {Q : VK} {d : D} {v : V} (k : Kont W G Q false d) (h : Rep W G d v) : Q v G.H := k v G (.refl G) (by unfold NewRep; rw [if_neg Bool.false_ne_true]; exact h)
/-- laying a fresh tuple -/
theorem ext_new {G : Gh} {p : Addr} {o : HO} (np : G.H p = none) : Ext G ⟨upd G.H p o, G.F, G.M⟩ :=
  ⟨fun a x e => by show upd G.H p o a = some x; rw [upd_ne (ne_of_none e np)]; exact e, fun _ h => h, fun _ h => .inl h, rfl⟩
theorem Kont.tup {G : Gh} (dom : ∀ a, G.F a → ∃ o, G.H a = some o) {Q : VK} {ds : List D} {vs : List V} (k : Kont W G Q false (.tup ds)) (h : Reps W G ds vs) (p : Addr) (np : G.H p = none) : Q (.ref p) (upd G.H p (.tup vs)) := by
  have e := ext_new (o := .tup vs) np
  refine k (.ref p) ⟨upd G.H p (.tup vs), G.F, G.M⟩ e ?_
  unfold NewRep
  rw [if_neg Bool.false_ne_true]
  simp only [Rep]
  exact ⟨p, vs, rfl, .inl (.inl upd_same), Reps.keep (e.keep (W := W) dom) ds vs h⟩
theorem Kont.lst {G : Gh} (dom : ∀ a, G.F a → ∃ o, G.H a = some o) {Q : VK} {ds : List D} {vs : List V} (k : Kont W G Q true (.lst ds)) (h : Reps W G ds vs) (p : Addr) (np : G.H p = none) : Q (.ref p) (upd G.H p (.lst vs)) := by
  have e := ext_new (o := .lst vs) np
  refine k (.ref p) ⟨upd G.H p (.lst vs), G.F, G.M⟩ e ?_
  unfold NewRep
  rw [if_pos rfl]
  refine ⟨.L ds, p, rfl, rfl, ⟨vs, upd_same, Reps.keep (e.keep (W := W) dom) ds vs h⟩, fun z => ?_, np, ?_⟩
  · obtain ⟨o, q⟩ := dom p z
    rw [np] at q; cases q
  · show upd G.H p (.lst vs) p ≠ none
    rw [upd_same]; simp
theorem Kont.of {G : Gh} {s : Sta} {σ : L2.St} {O : List (Option Addr)} (r : StRep W G s σ O) {Q : VK} {o : Bool} {d : D} (h : Out W wx G O σ (RO W) Q (.ok (o, d) s)) : Kont W G Q o d := by
  intro v G' e n
  refine h v G' O (r.fr e) (r.ext e) ?_
  unfold RO
  unfold NewRep at n
  split
  · rename_i b
    have b' : o = true := b
    rw [if_pos b'] at n
    obtain ⟨c, a, h1, h2, h3, h4, h5, h6⟩ := n
    refine ⟨c, a, h1, h2, h3, h4, fun z => ?_, fun z => ?_, .inr h5⟩
    · obtain ⟨x, hx, ex⟩ := List.mem_filterMap.mp z
      obtain ⟨i, hi, hix⟩ := List.mem_iff_getElem.mp hx
      have hi' : i < s.σ.length := by rw [← r.lenO]; exact hi
      obtain ⟨v', o', e1, e2, e3⟩ := r.slots i _ (List.getElem?_eq_getElem hi')
      rw [List.getElem?_eq_getElem hi, hix] at e2
      cases e2
      have ex : x = some a := ex
      subst ex
      cases q : s.σ[i] with
      | no => rw [q] at e3; cases e3
      | sh y => rw [q] at e3; cases e3.1
      | own c2 =>
        rw [q] at e3
        obtain ⟨b, f1, f2, f3, f4⟩ := e3
        cases f1
        obtain ⟨ob, g1, _⟩ := f3.there
        rw [h5] at g1; cases g1
    · rw [e.m] at z
      obtain ⟨n, hn, hna⟩ := List.mem_iff_getElem.mp z
      have hn' : n < s.S.length := by rw [← r.lenM]; exact hn
      obtain ⟨b, f1, f2, f3⟩ := r.cells n _ (List.getElem?_eq_getElem hn')
      rw [List.getElem?_eq_getElem hn, hna] at f1
      cases f1
      obtain ⟨ob, g1, _⟩ := f2.there
      rw [h5] at g1; cases g1
  · rename_i b
    have b' : ¬ o = true := b
    rw [if_neg b'] at n
    exact n
/-- an operation's answer is known -/
theorem prim_end {G : Gh} {s : Sta} {σ : L2.St} {O : List (Option Addr)} (r : StRep W G s σ O) {Q : VK} {as : List Arg} {vs : List V} {p : List D → Option (Bool × D)} (ra : AReps W σ G as vs)
    (h : Out W wx G O σ (RO W) Q ((lift (getAll s as) s).bind fun ds s1 => lift (p ds) s1)) : ∃ ds o d, RepsW W G ds vs ∧ p ds = some (o, d) ∧ Kont W G Q o d := by
  cases q : getAll s as with
  | none => rw [q] at h; exact False.elim h
  | some ds =>
    rw [q] at h
    have h : Out W wx G O σ (RO W) Q (lift (p ds) s) := h
    cases q2 : p ds with
    | none => rw [q2] at h; exact False.elim h
    | some x =>
      obtain ⟨o, d⟩ := x
      rw [q2] at h
      exact ⟨ds, o, d, args_w r ra q, q2, Kont.of r h⟩
end
end Z

set_option Elab.async false
set_option linter.all false
set_option maxRecDepth 100000
set_option maxHeartbeats 1000000
set_option autoImplicit false
/-! ZPrim: the operations on data, by the hand layer's rules. -/
namespace Z
open PySem PySem.Spec PyProof.Rows L2

theorem lim_line : LIM = sizeLine := by rw [sizeLine_eq]; rfl
abbrev Dom (G : Gh) : Prop := ∀ a, G.F a → ∃ o, G.H a = some o
section
variable {W : Wo} {X : Cx} {G : Gh}

/-! ### shapes -/
theorem repw_int {i : Int} {v : V} (h : RepW W G (.int i) v) : v = .int i := by simpa only [RepW, Rep] using h
theorem repw_bl {b : Bool} {v : V} (h : RepW W G (.bl b) v) : v = .bl b := by simpa only [RepW, Rep] using h
theorem repw_non {v : V} (h : RepW W G .non v) : v = .non := by simpa only [RepW, Rep] using h
theorem repw_str {x : List Nat} {v : V} (h : RepW W G (.str x) v) : v = .str (toS x) ∧ TxtOk x := by simpa only [RepW, Rep] using h
theorem repw_tup {ds : List D} {v : V} (h : RepW W G (.tup ds) v) : ∃ a vs, v = .ref a ∧ SqT W.K G.H a vs ∧ Reps W G ds vs := by simpa only [RepW, Rep] using h
theorem rep_int {i : Int} : Rep W G (.int i) (.int i) := by simp only [Rep]
theorem rep_bl {b : Bool} : Rep W G (.bl b) (.bl b) := by simp only [Rep]
theorem rep_non : Rep W G .non .non := by simp only [Rep]
theorem rep_str {x : List Nat} (h : TxtOk x) : Rep W G (.str x) (.str (toS x)) := by simp only [Rep]; exact ⟨trivial, h⟩
theorem rep_strE {x : List Nat} {z : Str} (h : TxtOk x) (e : z.cps.toList = x) : Rep W G (.str x) (.str z) := by
  subst e
  have := rep_str (W := W) (G := G) h
  rwa [toS_of] at this
/-- a two-place operation -/
def rP (W : Wo) (f : D → D → Option (Bool × D)) : R2 := fun x y H Q => ∃ (G : Gh) (d1 d2 : D) (o : Bool) (d : D), G.H = H ∧ Dom G ∧ RepW W G d1 x ∧ RepW W G d2 y ∧ f d1 d2 = some (o, d) ∧ Kont W G Q o d
theorem OpR_of {f : Value → Value → Sem Value} {p : D → D → Option (Bool × D)}
    (h : ∀ (G : Gh) (d1 d2 : D) (o : Bool) (d : D) (x y : V) (Q : VK), Dom G → RepW W G d1 x → RepW W G d2 y → p d1 d2 = some (o, d) → Kont W G Q o d → ∃ r : R2, OpR X f r ∧ r x y G.H Q) : OpR X f (rP W p) := by
  intro pins s σ H x y v u Q I rx ry q
  obtain ⟨G, d1, d2, o, d, rfl, dm, h1, h2, h3, k⟩ := q
  obtain ⟨r, hr, q⟩ := h G d1 d2 o d x y Q dm h1 h2 h3 k
  exact hr pins s σ _ x y v u Q I rx ry q

theorem mulOk_ok {i j : Int} (h : mulOk i j = true) : IntMulOk i j := by
  unfold mulOk at h
  simp only [Bool.or_eq_true, decide_eq_true_eq] at h
  rcases h with (h | h) | h
  · exact CMul.ok (.inl (by omega))
  · exact CMul.ok (.inr (by omega))
  · exact CMulW.ok (show i.natAbs.log2 + j.natAbs.log2 < 1000000 by omega)
def CMulZ (i j : Int) : Prop := mulOk i j = true
theorem op_mulZ : OpR X (binaryOp .Mult) (rI CMulZ fun i j => .int (i * j)) := opI fun _ _ _ _ _ _ _ hc q => mul_int q (mulOk_ok hc)
def CDivZ (_ j : Int) : Prop := divOk j = true
theorem op_divZ : OpR X (binaryOp .FloorDiv) (rI CDivZ fun i j => .int (i / j)) := opI fun i j _ _ _ _ _ hc q => by
  have hc : divOk j = true := hc
  unfold divOk at hc
  simp only [Bool.and_eq_true, Bool.or_eq_true, decide_eq_true_eq] at hc
  obtain ⟨h1, h2⟩ := hc
  refine floordiv_int (by omega) (by rw [Int.fdiv_eq_ediv_of_nonneg i (by omega)]; exact q) (.inl ?_)
  rcases h2 with h2 | h2
  · exact PyProof.noPylong_small (by omega)
  · exact PyProof.noPylong_of_log2 h2
theorem op_mulS : OpR X (binaryOp .Mult) (fun x y H Q => ∃ (z : List Nat) (j : Int), x = .str (toS z) ∧ y = .int j ∧ z.length * j.toNat ≤ LIM ∧ j.natAbs < 1073741824 ∧ Q (.str (toS (List.replicate j.toNat z).flatten)) H) := by
  intro pins s σ H x y v u Q I rx ry h
  obtain ⟨z, j, rfl, rfl, h1, h2, q⟩ := h
  obtain ⟨t, rfl⟩ := rx
  obtain ⟨t', rfl⟩ := ry
  have e : Txt.mul (toS z) j = toS (List.replicate j.toNat z).flatten := by
    unfold Txt.mul
    by_cases hj : j < 1
    · rw [if_pos hj]
      have : j.toNat = 0 := by omega
      rw [this]; rfl
    · rw [if_neg hj]
      by_cases hc : (j == 1 || (toS z).length == 0) = true
      · rw [if_pos hc]
        rw [Bool.or_eq_true] at hc
        rcases hc with hc | hc
        · have : j = 1 := by simpa using hc
          subst this
          simp [toS]
        · rw [toS_len] at hc
          have hz : z = [] := List.length_eq_zero_iff.mp (by simpa using hc)
          subst hz
          simp [toS]
      · rw [if_neg hc]
        have fl : ∀ (k : Nat) (acc : Array Nat), (List.replicate k z.toArray).foldl (· ++ ·) acc = (acc.toList ++ (List.replicate k z).flatten).toArray := fun k => by
          induction k with
          | zero => intro acc; simp
          | succ k ih => intro acc; rw [List.replicate_succ, List.foldl_cons, ih, List.replicate_succ]; simp
        have := fl j.toNat #[]
        show (⟨(List.replicate j.toNat z.toArray).foldl (· ++ ·) #[]⟩ : Str) = _
        rw [this]
        simp [toS]
  refine PySem.SB.mul ⟨?_, fun a b => ?_, fun a b => ?_⟩ fun t' k => ?_
  · have e1 : decide (j < -(2 ^ 63 : Int)) = false := decide_eq_false (by omega)
    have e2 : decide (j ≥ 2 ^ 63) = false := decide_eq_false (by omega)
    rw [e1, e2]; rfl
  · rw [toS_len]
    have hL : LIM = 16777216 := rfl
    have h3 : z.length ≤ LIM := by
      refine Nat.le_trans ?_ h1
      exact Nat.le_mul_of_pos_right _ (by omega)
    have h4 : (8589934591 : Int) ≤ (2 ^ 63 - 1) / j := by
      rw [Int.le_ediv_iff_mul_le (by omega)]
      have : j < 1073741824 := by omega
      have := Int.mul_le_mul_of_nonneg_left (show j ≤ 1073741823 by omega) (show (0 : Int) ≤ 8589934591 by decide)
      omega
    omega
  · have : Builtin.Str.tooLong ((toS z).length * j.toNat) = false := by
      rw [toS_len]
      have hL : LIM = 16777216 := rfl
      unfold Builtin.Str.tooLong
      have hs := sizeLine_eq
      first
        | exact decide_eq_false (by omega)
        | (simp; omega)
    exact this
  · rw [e]
    exact ⟨.str _, H, I.tok _, ⟨_, rfl⟩, q⟩
theorem tl_app (x y : List Nat) : (toS x ++ toS y).cps.toList = x ++ y := by
  have := TL.tl_append (toS x) (toS y)
  simpa [TL.tl] using this
theorem op_bin (hK : W.K = X.K) (op : Operator) : OpR X (binaryOp op) (rP W (binD op)) := by
  refine OpR_of fun G d1 d2 o d x y Q dm h1 h2 h3 k => ?_
  unfold binD at h3
  split at h3
  · cases h3
    cases repw_int h1; cases repw_int h2
    exact ⟨_, op_add, _, _, rfl, rfl, k.same rep_int⟩
  · split at h3
    · rename_i hz
      cases h3
      obtain ⟨rfl, z1⟩ := repw_str h1
      obtain ⟨rfl, z2⟩ := repw_str h2
      refine ⟨_, op_add_str, _, _, rfl, rfl, by rw [toS_len, toS_len, ← lim_line]; exact hz, k.same ?_⟩
      exact rep_strE ⟨by rw [List.length_append]; exact hz, fun c hc => (List.mem_append.mp hc).elim (z1.2 c) (z2.2 c)⟩ (tl_app _ _)
    · cases h3
  · split at h3
    · rename_i hz
      cases h3
      obtain ⟨a, xs, rfl, s1, r1⟩ := repw_tup h1
      obtain ⟨b, ys, rfl, s2, r2⟩ := repw_tup h2
      rw [hK] at s1 s2
      refine ⟨_, op_catA, a, b, xs, ys, rfl, rfl, s1, s2, by rw [r1.len, r2.len, ← lim_line]; exact hz, fun e => ?_, fun _ e => ?_, fun _ _ p np => k.tup dm (r1.append r2) p np⟩
      · subst e
        have e0 := r1.len
        refine k.same ?_
        rw [List.length_eq_zero_iff.mp e0.symm, List.nil_append]
        simp only [Rep]
        exact ⟨b, ys, rfl, hK ▸ s2, r2⟩
      · subst e
        have e0 := r2.len
        refine k.same ?_
        rw [List.length_eq_zero_iff.mp e0.symm, List.append_nil]
        simp only [Rep]
        exact ⟨a, xs, rfl, hK ▸ s1, r1⟩
    · cases h3
  · split at h3
    · rename_i hz
      cases h3
      obtain ⟨a, xs, rfl, s1, r1⟩ := h1
      obtain ⟨b, ys, rfl, s2, r2⟩ := h2
      exact ⟨_, op_cat, a, b, xs, ys, rfl, rfl, s1, s2, by rw [r1.len, r2.len, ← lim_line]; exact hz, fun p np => k.lst dm (r1.append r2) p np⟩
    · cases h3
  · cases h3
    cases repw_int h1; cases repw_int h2
    exact ⟨_, op_sub, _, _, rfl, rfl, k.same rep_int⟩
  · split at h3
    · rename_i hz
      cases h3
      cases repw_int h1; cases repw_int h2
      exact ⟨_, op_mulZ, _, _, rfl, rfl, hz, k.same rep_int⟩
    · cases h3
  · split at h3
    · rename_i hz
      cases h3
      obtain ⟨rfl, z1⟩ := repw_str h1
      cases repw_int h2
      refine ⟨_, op_mulS, _, _, rfl, rfl, hz.1, hz.2, k.same (rep_str ⟨?_, fun c hc => ?_⟩)⟩
      · rw [List.length_flatten, List.map_replicate, List.sum_replicate_nat, Nat.mul_comm]
        exact hz.1
      · obtain ⟨l, hl, hcl⟩ := List.mem_flatten.mp hc
        rw [List.eq_of_mem_replicate hl] at hcl
        exact z1.2 c hcl
    · cases h3
  · split at h3
    · rename_i hz
      cases h3
      cases repw_int h1; cases repw_int h2
      exact ⟨_, op_divZ, _, _, rfl, rfl, hz, k.same rep_int⟩
    · cases h3
  · split at h3
    · rename_i hz
      cases h3
      cases repw_int h1; cases repw_int h2
      exact ⟨_, op_mod, _, _, rfl, rfl, hz, k.same rep_int⟩
    · cases h3
  · split at h3
    · rename_i hz
      cases h3
      cases repw_int h1; cases repw_int h2
      exact ⟨_, op_pow, _, _, rfl, rfl, ⟨hz.1, hz.2.1, by have := hz.2.2; omega⟩, k.same rep_int⟩
    · cases h3
  · cases h3

/-! ### comparisons -/
mutual
def toP : D → PyData
  | .bl b => .bool b
  | .int i => .int i
  | .str x => .str (toS x)
  | .tup ds => .tuple (toPs ds)
  | .lst ds => .list (toPs ds)
  | _ => .none
def toPs : List D → List PyData
  | [] => []
  | d :: ds => toP d :: toPs ds
end
mutual
theorem dp_of : ∀ (d : D) (v : V), d.plain = true → Rep W G d v → Dp W.K G.H v (toP d)
  | .non, v, _, h => by
    cases repw_non h.w
    exact .non
  | .bl b, v, _, h => by
    cases repw_bl h.w
    exact .bl b
  | .int i, v, _, h => by
    cases repw_int h.w
    exact .int i
  | .str x, v, _, h => by
    cases (repw_str h.w).1
    exact .str _
  | .tup ds, v, p, h => by
    obtain ⟨a, vs, rfl, s, r⟩ := repw_tup h.w
    simp only [D.plain] at p
    exact .tup s (dps_of ds vs p r)
  | .lst ds, v, p, h => by
    obtain ⟨a, vs, rfl, s, r⟩ := h.w
    simp only [D.plain] at p
    exact .lst (.inl (.inl s)) (dps_of ds vs p r)
  | .dct _ _, _, p, _ => by simp [D.plain] at p
  | .ref _, _, p, _ => by simp [D.plain] at p
  | .fn _, _, p, _ => by simp [D.plain] at p
  | .scr _, _, p, _ => by simp [D.plain] at p
theorem dps_of : ∀ (ds : List D) (vs : List V), plains ds = true → Reps W G ds vs → DpAll W.K G.H vs (toPs ds)
  | [], vs, _, h => by
    simp only [Reps] at h
    subst h
    exact .nil
  | d :: ds, vs, p, h => by
    simp only [Reps] at h
    obtain ⟨v, r, rfl, h1, h2⟩ := h
    simp only [plains, Bool.and_eq_true] at p
    exact .cons (dp_of d v p.1 h1) (dps_of ds r p.2 h2)
end
theorem dp_ofW {d : D} {v : V} (p : d.plain = true) (h : RepW W G d v) : Dp W.K G.H v (toP d) := by
  cases d with
  | lst ds =>
    obtain ⟨a, vs, rfl, s, r⟩ := h
    simp only [D.plain] at p
    exact .lst (.inl (.inl s)) (dps_of ds vs p r)
  | dct _ _ => simp [D.plain] at p
  | _ => exact dp_of _ v p h
theorem toPs_len : ∀ ds : List D, (toPs ds).length = ds.length
  | [] => rfl
  | d :: ds => by simp only [toPs, List.length_cons, toPs_len ds]
theorem strOk_of {x : List Nat} (h : TxtOk x) : PyData.canLay0 (.str (toS x)) = true := by
  show Array.all x.toArray (fun c => decide (c < 0x110000)) = true
  simp only [Array.all_eq_true, List.getElem_toArray, decide_eq_true_eq]
  intro i hi
  exact h.2 _ (List.getElem_mem _)
mutual
theorem lay_of : ∀ (d : D) (v : V), Rep W G d v → (toP d).canLay0 = true
  | .non, _, _ => rfl
  | .bl b, _, _ => rfl
  | .int i, _, _ => rfl
  | .str x, v, h => strOk_of (repw_str h.w).2
  | .tup ds, v, h => by
    obtain ⟨a, vs, rfl, s, r⟩ := repw_tup h.w
    simp only [toP, PyData.canLay0]
    exact lays_of ds vs r
  | .lst ds, v, h => by
    obtain ⟨a, vs, rfl, s, r⟩ := h.w
    simp only [toP, PyData.canLay0]
    exact lays_of ds vs r
  | .dct _ _, _, _ => rfl
  | .ref _, _, _ => rfl
  | .fn _, _, _ => rfl
  | .scr _, _, _ => rfl
theorem lays_of : ∀ (ds : List D) (vs : List V), Reps W G ds vs → PyData.canLayAll0 (toPs ds) = true
  | [], _, _ => rfl
  | d :: ds, vs, h => by
    simp only [Reps] at h
    obtain ⟨v, r, rfl, h1, h2⟩ := h
    simp only [toPs, PyData.canLayAll0, lay_of d v h1, lays_of ds r h2, Bool.and_self]
end
theorem lay_ofW {d : D} {v : V} (h : RepW W G d v) : (toP d).canLay0 = true := by
  cases d with
  | lst ds =>
    obtain ⟨a, vs, rfl, s, r⟩ := h
    simp only [toP, PyData.canLay0]
    exact lays_of ds vs r
  | dct _ _ => rfl
  | _ => exact lay_of (W := W) (G := G) _ v h
mutual
theorem deep_of : ∀ d : D, (toP d).depth = d.deep
  | .non => rfl
  | .bl b => rfl
  | .int i => rfl
  | .str x => rfl
  | .tup ds => by simp only [toP, PyData.depth, D.deep, deeps_of ds]
  | .lst ds => by simp only [toP, PyData.depth, D.deep, deeps_of ds]
  | .dct _ _ => rfl
  | .ref _ => rfl
  | .fn _ => rfl
  | .scr _ => rfl
theorem deeps_of : ∀ ds : List D, PyData.depthAll (toPs ds) = deeps ds
  | [] => rfl
  | d :: ds => by simp only [toPs, PyData.depthAll, deeps, deep_of d, deeps_of ds]
end
theorem beqS (x y : List Nat) : (toS x == toS y) = (x == y) := by
  by_cases h : x = y
  · subst h; simp
  · have : toS x ≠ toS y := fun e => h (toS_inj e)
    rw [beq_eq_false_iff_ne.mpr this, beq_eq_false_iff_ne.mpr h]
mutual
theorem eqv_of : ∀ a b : D, a.plain = true → b.plain = true → PyData.eqv (toP a) (toP b) = a.eqv b
  | .non, b, _, p => by cases b <;> first | rfl | (simp [D.plain] at p)
  | .bl a, b, _, p => by cases b <;> first | rfl | (simp [D.plain] at p; done) | simp [toP, PyData.eqv, D.eqv, b2i]
  | .int a, b, _, p => by cases b <;> first | rfl | (simp [D.plain] at p; done) | simp [toP, PyData.eqv, D.eqv, b2i]
  | .str a, b, _, p => by cases b <;> first | rfl | (simp [D.plain] at p; done) | (simp only [toP, PyData.eqv, D.eqv]; exact beqS _ _)
  | .tup as, b, pa, p => by
    simp only [D.plain] at pa
    cases b <;> first
      | rfl
      | (simp only [D.plain] at p; simp only [toP, PyData.eqv, D.eqv]; exact eqvs_of _ _ pa p)
      | (simp [D.plain] at p)
  | .lst as, b, pa, p => by
    simp only [D.plain] at pa
    cases b <;> first
      | rfl
      | (simp only [D.plain] at p; simp only [toP, PyData.eqv, D.eqv]; exact eqvs_of _ _ pa p)
      | (simp [D.plain] at p)
  | .dct _ _, _, p, _ => by simp [D.plain] at p
  | .ref _, _, p, _ => by simp [D.plain] at p
  | .fn _, _, p, _ => by simp [D.plain] at p
  | .scr _, _, p, _ => by simp [D.plain] at p
theorem eqvs_of : ∀ as bs : List D, plains as = true → plains bs = true → PyData.eqvAll (toPs as) (toPs bs) = eqvs as bs
  | [], [], _, _ => rfl
  | [], _ :: _, _, _ => rfl
  | _ :: _, [], _, _ => rfl
  | a :: as, b :: bs, pa, pb => by
    simp only [plains, Bool.and_eq_true] at pa pb
    simp only [toPs, PyData.eqvAll, eqvs, eqv_of a b pa.1 pb.1, eqvs_of as bs pa.2 pb.2]
end
theorem shaped_of {d : D} {v : V} (h : RepW W G d v) (f : d.fit = true) : SeqAt.shaped (toP d) = true := by
  unfold D.fit at f
  rw [Bool.and_eq_true, decide_eq_true_eq] at f
  show (PyData.canLay0 (toP d) && decide ((toP d).depth ≤ 64)) = true
  rw [lay_ofW h, deep_of, decide_eq_true f.2]
  rfl
theorem fit_plain {d : D} (f : d.fit = true) : d.plain = true := by
  unfold D.fit at f
  rw [Bool.and_eq_true] at f
  exact f.1
theorem ltL_eq : ∀ x y : List Nat, ltL x y = decide (x < y)
  | [], [] => rfl
  | [], _ :: _ => by simp [ltL]
  | _ :: _, [] => by simp [ltL]
  | a :: as, b :: bs => by
    unfold ltL
    by_cases h : a = b
    · subst h
      rw [if_pos rfl, ltL_eq as bs]
      simp [List.cons_lt_cons_iff]
    · rw [if_neg h]
      by_cases h2 : a < b
      · rw [decide_eq_true h2]; exact (decide_eq_true (List.cons_lt_cons_iff.mpr (.inl h2))).symm
      · rw [decide_eq_false h2]
        exact (decide_eq_false (fun z => by
          rcases List.cons_lt_cons_iff.mp z with z | z
          · exact h2 z
          · exact h z.1)).symm
theorem memP (x : D) (px : x.plain = true) : ∀ ds : List D, plains ds = true → ((toPs ds).any fun z => PyData.eqv z (toP x)) = memD x ds
  | [], _ => rfl
  | d :: ds, p => by
    simp only [plains, Bool.and_eq_true] at p
    simp only [toPs, List.any_cons, memD, eqv_of d x p.1 px]
    exact congrArg _ (memP x px ds p.2)

/-! ### keys -/
def toK : D → Option Key
  | .int i => some (.inl i)
  | .str x => some (.inr (toS x))
  | _ => none
theorem toK_kD (k : Key) : toK (kD k) = some k := by
  cases k with
  | inl i => rfl
  | inr x => show some (Sum.inr (toS x.cps.toList)) = _; rw [toS_of]
theorem kD_eqv (a b : Key) : (kD a).eqv (kD b) = decide (a = b) := by
  cases a with
  | inl i =>
    cases b with
    | inl j => rw [key_ll]; rfl
    | inr y => rw [key_lr]; rfl
  | inr x =>
    cases b with
    | inl j => rw [key_rl]; rfl
    | inr y =>
      rw [key_rr]
      show (x.cps.toList == y.cps.toList) = _
      rw [← beqS, toS_of, toS_of, Bool.beq_eq_decide_eq]
theorem key_rep {d : D} {v : V} (h : RepW W G d v) (k : keyOk d = true) : ∃ x, d = kD x ∧ v = kV x := by
  cases d with
  | int i => exact ⟨.inl i, rfl, repw_int h⟩
  | str x => exact ⟨.inr (toS x), rfl, (repw_str h).1⟩
  | _ => cases k
theorem look_rep (k : Key) : ∀ (kvs : List (Key × V)) (us : List D), Reps W G us (kvs.map (·.2)) →
    (lookD (kvs.map fun p => kD p.1) us (kD k) = none ∧ valV kvs k = none) ∨ ∃ d v, lookD (kvs.map fun p => kD p.1) us (kD k) = some d ∧ valV kvs k = some v ∧ Rep W G d v
  | [], us, _ => .inl ⟨by cases us <;> rfl, rfl⟩
  | (k', v) :: r, us, h => by
    cases us with
    | nil => simp [Reps] at h
    | cons d ds =>
      simp only [Reps, List.map_cons] at h
      obtain ⟨v', r', e, h1, h2⟩ := h
      cases e
      simp only [List.map_cons, lookD, kD_eqv]
      by_cases q : k' = k
      · rw [decide_eq_true q, if_pos rfl]
        exact .inr ⟨d, v, rfl, valV_pos q, h1⟩
      · rw [decide_eq_false q, if_neg Bool.false_ne_true, valV_neg q]
        exact look_rep k r ds h2
theorem op_din (hu : X.A.units + 1 < cLine) : OpR X (compareOp .In) (fun y x H Q => ∃ a o, x = .ref a ∧ DGet H a y o ∧ Q (.bl o.isSome) H) := by
  intro pins s σ H y x v u Q I ry rx h
  obtain ⟨a, o, rfl, g, q⟩ := h
  cases rx
  exact d_in hu I g ry fun s3 I3 => ⟨.bl o.isSome, H, I3, rfl, q⟩
theorem op_dnotin (hu : X.A.units + 1 < cLine) : OpR X (compareOp .NotIn) (fun y x H Q => ∃ a o, x = .ref a ∧ DGet H a y o ∧ Q (.bl (!o.isSome)) H) := by
  intro pins s σ H y x v u Q I ry rx h
  obtain ⟨a, o, rfl, g, q⟩ := h
  cases rx
  exact d_notIn hu I g ry fun s3 I3 => ⟨.bl (!o.isSome), H, I3, rfl, q⟩
/-- in a list or tuple of plain data -/
def rInZ (K : PySem.W.Frag) (neg : Bool) : R2 := fun x y H Q => ∃ d ds, Dp K H x d ∧ (Dp K H y (.list ds) ∨ Dp K H y (.tuple ds)) ∧ SeqAt.shaped d = true ∧ PyData.canLayAll0 ds = true ∧ PyData.depthAll ds ≤ 63 ∧ Q (.bl (if neg then !(ds.any fun z => PyData.eqv z d) else ds.any fun z => PyData.eqv z d)) H
theorem room_in {A : Around} {d : PyData} {ds : List PyData} (h : PyData.depthAll ds ≤ 63) (hu : A.units + 65 < cLine) : A.units + 1 + min (PyData.depthAll ds) d.depth < cLine := by omega
theorem op_inZ (hu : X.A.units + 65 < cLine) : OpR X (compareOp .In) (rInZ X.K false) := by
  intro pins s σ H x y v u Q I rx ry h
  obtain ⟨d, ds, hd, he, sd, sl, sz, q⟩ := h
  obtain ⟨as, r1⟩ := Dp.reads I d x v hd rx
  rcases he with he | he
  · obtain ⟨bs, r2⟩ := Dp.reads I (.list ds) y u he ry
    exact SeqAt.in_list_reads r2 r1 sl (SeqAt.canLay_of_shaped sd) (room_in sz hu) ⟨.bl _, H, I, rfl, q⟩
  · obtain ⟨bs, r2⟩ := Dp.reads I (.tuple ds) y u he ry
    exact SeqAt.in_tuple_reads r2 r1 sl (SeqAt.canLay_of_shaped sd) (room_in sz hu) ⟨.bl _, H, I, rfl, q⟩
theorem op_notinZ (hu : X.A.units + 65 < cLine) : OpR X (compareOp .NotIn) (rInZ X.K true) := by
  intro pins s σ H x y v u Q I rx ry h
  obtain ⟨d, ds, hd, he, sd, sl, sz, q⟩ := h
  obtain ⟨as, r1⟩ := Dp.reads I d x v hd rx
  rcases he with he | he
  · obtain ⟨bs, r2⟩ := Dp.reads I (.list ds) y u he ry
    exact SeqAt.notIn_list_reads r2 r1 sl (SeqAt.canLay_of_shaped sd) (room_in sz hu) ⟨.bl _, H, I, rfl, q⟩
  · obtain ⟨bs, r2⟩ := Dp.reads I (.tuple ds) y u he ry
    exact SeqAt.notIn_tuple_reads r2 r1 sl (SeqAt.canLay_of_shaped sd) (room_in sz hu) ⟨.bl _, H, I, rfl, q⟩
theorem op_eqZ (hu : X.A.units + 64 < cLine) (hK : W.K = X.K) {d1 d2 : D} {x y : V} {Q : VK} (h1 : RepW W G d1 x) (h2 : RepW W G d2 y) (f1 : d1.fit = true) (f2 : d2.fit = true) (k : Q (.bl (d1.eqv d2)) G.H) : rEqD X.K x y G.H Q := by
  rw [← hK]
  refine ⟨toP d1, toP d2, dp_ofW (fit_plain f1) h1, dp_ofW (fit_plain f2) h2, shaped_of h1 f1, shaped_of h2 f2, ?_⟩
  rw [eqv_of d1 d2 (fit_plain f1) (fit_plain f2)]
  exact k
theorem op_neZ (hu : X.A.units + 64 < cLine) (hK : W.K = X.K) {d1 d2 : D} {x y : V} {Q : VK} (h1 : RepW W G d1 x) (h2 : RepW W G d2 y) (f1 : d1.fit = true) (f2 : d2.fit = true) (k : Q (.bl (!d1.eqv d2)) G.H) : rNeD X.K x y G.H Q := by
  rw [← hK]
  refine ⟨toP d1, toP d2, dp_ofW (fit_plain f1) h1, dp_ofW (fit_plain f2) h2, shaped_of h1 f1, shaped_of h2 f2, ?_⟩
  rw [eqv_of d1 d2 (fit_plain f1) (fit_plain f2)]
  exact k
theorem in_plain {x : D} {ds : List D} (h : (x.fit && plains ds && decide (deeps ds ≤ 63)) = true) : x.fit = true ∧ plains ds = true ∧ deeps ds ≤ 63 := by
  simp only [Bool.and_eq_true, decide_eq_true_eq] at h
  exact ⟨h.1.1, h.1.2, h.2⟩
theorem op_inD (hu : X.A.units + 65 < cLine) (hK : W.K = X.K) {d1 d2 : D} {b : Bool} {x y : V} {Q : VK} (h1 : RepW W G d1 x) (h2 : RepW W G d2 y) (e : inD d1 d2 = some b) :
    (Q (.bl b) G.H → ∃ r : R2, OpR X (compareOp .In) r ∧ r x y G.H Q) ∧ (Q (.bl (!b)) G.H → ∃ r : R2, OpR X (compareOp .NotIn) r ∧ r x y G.H Q) := by
  cases d2 with
  | lst ds =>
    simp only [inD] at e
    split at e
    · rename_i p
      obtain ⟨p1, p2, p3⟩ := in_plain p
      cases e
      have hp : (D.lst ds).plain = true := by simp only [D.plain]; exact p2
      have lay := lay_ofW h2
      simp only [toP, PyData.canLay0] at lay
      have mm := memP d1 (fit_plain p1) ds p2
      refine ⟨fun q => ⟨_, op_inZ hu, toP d1, toPs ds, hK ▸ dp_ofW (fit_plain p1) h1, .inl (hK ▸ dp_ofW hp h2), shaped_of h1 p1, lay, by rw [deeps_of]; exact p3, ?_⟩,
        fun q => ⟨_, op_notinZ hu, toP d1, toPs ds, hK ▸ dp_ofW (fit_plain p1) h1, .inl (hK ▸ dp_ofW hp h2), shaped_of h1 p1, lay, by rw [deeps_of]; exact p3, ?_⟩⟩
      · rw [mm]; exact q
      · rw [mm]; exact q
    · cases e
  | tup ds =>
    simp only [inD] at e
    split at e
    · rename_i p
      obtain ⟨p1, p2, p3⟩ := in_plain p
      cases e
      have hp : (D.tup ds).plain = true := by simp only [D.plain]; exact p2
      have lay := lay_ofW h2
      simp only [toP, PyData.canLay0] at lay
      have mm := memP d1 (fit_plain p1) ds p2
      refine ⟨fun q => ⟨_, op_inZ hu, toP d1, toPs ds, hK ▸ dp_ofW (fit_plain p1) h1, .inr (hK ▸ dp_ofW hp h2), shaped_of h1 p1, lay, by rw [deeps_of]; exact p3, ?_⟩,
        fun q => ⟨_, op_notinZ hu, toP d1, toPs ds, hK ▸ dp_ofW (fit_plain p1) h1, .inr (hK ▸ dp_ofW hp h2), shaped_of h1 p1, lay, by rw [deeps_of]; exact p3, ?_⟩⟩
      · rw [mm]; exact q
      · rw [mm]; exact q
    · cases e
  | str z =>
    simp only [inD] at e
    split at e
    · rename_i c
      cases e
      obtain ⟨rfl, _⟩ := repw_str h1
      obtain ⟨rfl, _⟩ := repw_str h2
      exact ⟨fun q => ⟨_, op_in_sign, c, toS z, rfl, rfl, q⟩, fun q => ⟨_, op_notIn_sign, c, toS z, rfl, rfl, q⟩⟩
    · cases e
  | dct ks us =>
    simp only [inD] at e
    split at e
    · rename_i p
      obtain ⟨k, rfl, rfl⟩ := key_rep h1 p
      obtain ⟨a, kvs, rfl, e1, rfl, r⟩ := h2
      cases e
      rcases look_rep k kvs us r with ⟨e2, e3⟩ | ⟨d, v, e2, e3, _⟩
      · rw [e2]
        exact ⟨fun q => ⟨_, op_din (by omega), a, none, rfl, e3 ▸ DGet.k e1, q⟩, fun q => ⟨_, op_dnotin (by omega), a, none, rfl, e3 ▸ DGet.k e1, q⟩⟩
      · rw [e2]
        exact ⟨fun q => ⟨_, op_din (by omega), a, some v, rfl, e3 ▸ DGet.k e1, q⟩, fun q => ⟨_, op_dnotin (by omega), a, some v, rfl, e3 ▸ DGet.k e1, q⟩⟩
    · cases e
  | _ => cases e
theorem op_cmp (hu : X.A.units + 65 < cLine) (hK : W.K = X.K) (op : CmpOp) : OpR X (compareOp op) (rP W (cmpD op)) := by
  refine OpR_of fun G d1 d2 o d x y Q dm h1 h2 h3 k => ?_
  unfold cmpD at h3
  split at h3
  · split at h3
    · rename_i f
      rw [Bool.and_eq_true] at f
      cases h3
      exact ⟨_, op_eqD (by omega), op_eqZ (by omega) hK h1 h2 f.1 f.2 (k.same rep_bl)⟩
    · cases h3
  · split at h3
    · rename_i f
      rw [Bool.and_eq_true] at f
      cases h3
      exact ⟨_, op_neD (by omega), op_neZ (by omega) hK h1 h2 f.1 f.2 (k.same rep_bl)⟩
    · cases h3
  · cases h3
    cases repw_int h1; cases repw_int h2
    exact ⟨_, op_lt, _, _, rfl, rfl, k.same rep_bl⟩
  · cases h3
    cases repw_int h1; cases repw_int h2
    exact ⟨_, op_le, _, _, rfl, rfl, k.same rep_bl⟩
  · cases h3
    cases repw_int h1; cases repw_int h2
    exact ⟨_, op_gt, _, _, rfl, rfl, k.same rep_bl⟩
  · cases h3
    cases repw_int h1; cases repw_int h2
    exact ⟨_, op_ge, _, _, rfl, rfl, k.same rep_bl⟩
  · cases h3
    obtain ⟨rfl, _⟩ := repw_str h1
    obtain ⟨rfl, _⟩ := repw_str h2
    refine ⟨_, op_lt_str, _, _, rfl, rfl, ?_⟩
    have := k.same (rep_bl (W := W) (G := G))
    rw [ltL_eq] at this
    exact this
  · cases h3
    obtain ⟨rfl, _⟩ := repw_str h1
    obtain ⟨rfl, _⟩ := repw_str h2
    refine ⟨_, op_gt_str, _, _, rfl, rfl, ?_⟩
    have := k.same (rep_bl (W := W) (G := G))
    rw [ltL_eq] at this
    exact this
  · cases e : inD d1 d2 with
    | none => rw [e] at h3; cases h3
    | some b =>
      rw [e] at h3
      cases h3
      exact (op_inD hu hK h1 h2 e).1 (k.same rep_bl)
  · cases e : inD d1 d2 with
    | none => rw [e] at h3; cases h3
    | some b =>
      rw [e] at h3
      cases h3
      exact (op_inD hu hK h1 h2 e).2 (k.same rep_bl)
  · cases h3
end
end Z

set_option Elab.async false
set_option linter.all false
set_option maxRecDepth 100000
set_option maxHeartbeats 1000000
set_option autoImplicit false
/-! ZPrim2: subscripts, calls of built-ins, methods that change nothing. -/
namespace Z
open PySem PySem.Spec PyProof.Rows L2
section
variable {W : Wo} {X : Cx} {G : Gh}
theorem IxR_of {p : D → D → Option (Bool × D)}
    (h : ∀ (G : Gh) (d1 d2 : D) (o : Bool) (d : D) (x y : V) (Q : VK), Dom G → RepW W G d1 x → RepW W G d2 y → p d1 d2 = some (o, d) → Kont W G Q o d → ∃ r : R2, IxR X r ∧ r x y G.H Q) : IxR X (rP W p) := by
  intro value slice pins s σ H x y v u Q I rx ry q hs
  obtain ⟨G, d1, d2, o, d, rfl, dm, h1, h2, h3, k⟩ := q
  obtain ⟨r, hr, q⟩ := h G d1 d2 o d x y Q dm h1 h2 h3 k
  exact hr value slice pins s σ _ x y v u Q I rx ry q hs
theorem at_rep {ds : List D} {vs : List V} {i : Int} {d : D} (r : Reps W G ds vs) (e : atI ds i = some d) : ∃ v, L2.atI vs i = some v ∧ Rep W G d v := by
  unfold atI at e
  unfold L2.atI
  have el : L2.ixN vs.length i = ixN ds.length i := by rw [r.len]; rfl
  rw [el]
  cases q : ixN ds.length i with
  | none => rw [q] at e; cases e
  | some j =>
    rw [q] at e
    exact r.get e
theorem ix_dict (hu : X.A.units + 1 < cLine) : IxR X (fun x y H Q => ∃ a v, x = .ref a ∧ DGet H a y (some v) ∧ Q v H) := by
  intro value slice pins s σ H x y v u Q I rx ry h hs
  obtain ⟨a, w, rfl, g, q⟩ := h
  cases rx
  exact tail_any (dict_typeIs I g) PySem.F.slot_dict_getitem.lookup (d_getItem hu I g ry fun w' s3 I3 rw' => ⟨w, H, I3, rw', q⟩) hs
theorem ix_Z (hu : X.A.units + 1 < cLine) (hK : W.K = X.K) : IxR X (rP W ixD) := by
  refine IxR_of fun G d1 d2 o d x y Q dm h1 h2 h3 k => ?_
  unfold ixD at h3
  split at h3
  · rename_i ds i
    cases e : atI ds i with
    | none => rw [e] at h3; cases h3
    | some z =>
      rw [e] at h3; cases h3
      obtain ⟨a, vs, rfl, s1, r1⟩ := h1
      cases repw_int h2
      obtain ⟨v, e2, rv⟩ := at_rep r1 e
      exact ⟨_, ix_list, a, vs, i, v, rfl, rfl, .inl (.inl s1), e2, k.same rv⟩
  · rename_i ds i
    cases e : atI ds i with
    | none => rw [e] at h3; cases h3
    | some z =>
      rw [e] at h3; cases h3
      obtain ⟨a, vs, rfl, s1, r1⟩ := repw_tup h1
      cases repw_int h2
      obtain ⟨v, e2, rv⟩ := at_rep r1 e
      exact ⟨_, ix_tup, a, vs, i, v, rfl, rfl, hK ▸ s1, e2, k.same rv⟩
  · rename_i z i
    cases e : atI z i with
    | none => rw [e] at h3; cases h3
    | some c =>
      rw [e] at h3; cases h3
      obtain ⟨rfl, hz⟩ := repw_str h1
      cases repw_int h2
      refine ⟨_, ix_str, toS z, i, c, rfl, rfl, by rw [toS_len, ← lim_line]; exact hz.1, e, k.same (rep_strE ⟨by simp [LIM], fun c' hc => ?_⟩ rfl)⟩
      have : c' = c := by simpa using hc
      subst this
      unfold atI at e
      cases q : ixN z.length i with
      | none => rw [q] at e; cases e
      | some j => rw [q] at e; exact hz.2 _ (List.mem_of_getElem? e)
  · split at h3
    · rename_i p
      obtain ⟨key, rfl, rfl⟩ := key_rep h2 p
      obtain ⟨a, kvs, rfl, e1, rfl, r⟩ := h1
      rcases look_rep key kvs _ r with ⟨e2, e3⟩ | ⟨d', v, e2, e3, rv⟩
      · rw [e2] at h3; cases h3
      · rw [e2] at h3; cases h3
        exact ⟨_, ix_dict hu, a, v, rfl, e3 ▸ DGet.k e1, k.same rv⟩
    · cases h3
  · cases h3
/-! ### slices -/
def rS (W : Wo) (p : D → Option Int → Option Int → Option (Bool × D)) : V → Option Int → Option Int → Hp → VK → Prop :=
  fun x lo hi H Q => ∃ (G : Gh) (d1 : D) (o : Bool) (d : D), G.H = H ∧ Dom G ∧ RepW W G d1 x ∧ p d1 lo hi = some (o, d) ∧ Kont W G Q o d
theorem sIx_eq (n d : Nat) (o : Option Int) : sIx n d o = HT.sIx n d o := by
  cases o with
  | none => rfl
  | some v =>
    show (if v < 0 then (max (v + n) 0).toNat else (min v n).toNat) = if v < 0 then (v + (n : Int)).toNat else min v.toNat n
    split <;> omega
theorem cut_eq {α : Type} (xs : List α) (lo hi : Option Int) : cut xs lo hi = (xs.drop (HT.sIx xs.length 0 lo)).take (HT.sIx xs.length xs.length hi - HT.sIx xs.length 0 lo) := by
  unfold cut
  rw [sIx_eq, sIx_eq]
theorem Reps.cut {ds : List D} {vs : List V} (r : Reps W G ds vs) (lo hi : Option Int) : Reps W G (cut ds lo hi) (cutV vs lo hi) := by
  rw [cut_eq]
  unfold cutV
  rw [r.len]
  exact (r.drop _).take _
theorem cut_mem {α : Type} {xs : List α} {lo hi : Option Int} {c : α} (h : c ∈ cut xs lo hi) : c ∈ xs := List.mem_of_mem_drop (List.mem_of_mem_take h)
theorem cut_len {α : Type} (xs : List α) (lo hi : Option Int) : (cut xs lo hi).length ≤ xs.length := by
  unfold cut
  rw [List.length_take, List.length_drop]
  omega
theorem sl_Z (hK : W.K = X.K) : SlR X (rS W slD) := by
  intro pins s σ H x v vl vu lo hi sl Q I rx hs pl pu q
  obtain ⟨G, d1, o, d, rfl, dm, h1, h3, k⟩ := q
  unfold slD at h3
  split at h3
  · cases h3
    obtain ⟨a, vs, rfl, s1, r1⟩ := h1
    exact sl_list pins s σ _ _ v vl vu lo hi sl Q I rx hs pl pu ⟨a, vs, rfl, .inl (.inl s1), fun p np => k.lst dm (r1.cut lo hi) p np⟩
  · cases h3
    obtain ⟨a, vs, rfl, s1, r1⟩ := repw_tup h1
    refine sl_tupA pins s σ _ _ v vl vu lo hi sl Q I rx hs pl pu ⟨a, vs, rfl, hK ▸ s1, fun z => ?_, fun _ p np => k.tup dm (r1.cut lo hi) p np⟩
    rename_i ds
    have e : cut ds lo hi = ds := by
      rw [cut_eq, ← r1.len, z.1, z.2, List.drop_zero, Nat.sub_zero, r1.len, List.take_length]
    rw [e] at k
    refine k.same ?_
    simp only [Rep]
    exact ⟨a, vs, rfl, s1, r1⟩
  · cases h3
    obtain ⟨rfl, hz⟩ := repw_str h1
    refine sl_str pins s σ _ _ v vl vu lo hi sl Q I rx hs pl pu ⟨_, rfl, by rw [toS_len, ← lim_line]; exact hz.1, k.same (rep_strE ⟨Nat.le_trans (cut_len _ _ _) hz.1, fun c hc => hz.2 c (cut_mem hc)⟩ ?_)⟩
    rw [cut_eq]
    unfold cutS
    rw [toS_len]
  · cases h3

/-! ### calls of built-ins -/
def rC (W : Wo) (p : List D → Option (Bool × D)) : List V → Hp → VK → Prop := fun vs H Q => ∃ (G : Gh) (ds : List D) (o : Bool) (d : D), G.H = H ∧ Dom G ∧ RepsW W G ds vs ∧ p ds = some (o, d) ∧ Kont W G Q o d
theorem CallR_of {f : Value} {p : List D → Option (Bool × D)}
    (h : ∀ (G : Gh) (ds : List D) (o : Bool) (d : D) (vs : List V) (Q : VK), Dom G → RepsW W G ds vs → p ds = some (o, d) → Kont W G Q o d → ∃ r : List V → Hp → VK → Prop, CallR X f r ∧ r vs G.H Q) : CallR X f (rC W p) := by
  intro pins s σ H xs us Q I rx q
  obtain ⟨G, ds, o, d, rfl, dm, h1, h3, k⟩ := q
  obtain ⟨r, hr, q⟩ := h G ds o d xs Q dm h1 h3 k
  exact hr pins s σ _ xs us Q I rx q
theorem one_w {d : D} {vs : List V} (h : RepsW W G [d] vs) : ∃ v, vs = [v] ∧ RepW W G d v := by
  obtain ⟨v, r, rfl, h1, rfl⟩ := h
  exact ⟨v, rfl, h1⟩
theorem two_w {d e : D} {vs : List V} (h : RepsW W G [d, e] vs) : ∃ v u, vs = [v, u] ∧ RepW W G d v ∧ RepW W G e u := by
  obtain ⟨v, r, rfl, h1, u, r2, rfl, h2, rfl⟩ := h
  exact ⟨v, u, rfl, h1, h2⟩
/-- a call with one operand -/
def p1 (f : D → Option (Bool × D)) (ds : List D) : Option (Bool × D) := match ds with
  | [x] => f x
  | _ => none
def p2 (f : D → D → Option (Bool × D)) (ds : List D) : Option (Bool × D) := match ds with
  | [x, y] => f x y
  | _ => none
theorem CallR1 {f : Value} {p : D → Option (Bool × D)}
    (h : ∀ (G : Gh) (x : D) (o : Bool) (d : D) (v : V) (Q : VK), Dom G → RepW W G x v → p x = some (o, d) → Kont W G Q o d → ∃ r : List V → Hp → VK → Prop, CallR X f r ∧ r [v] G.H Q) : CallR X f (rC W (p1 p)) := by
  refine CallR_of fun G ds o d vs Q dm h1 h3 k => ?_
  match ds, h1, h3 with
  | [x], h1, h3 =>
    obtain ⟨v, rfl, w1⟩ := one_w h1
    exact h G x o d v Q dm w1 h3 k
  | [], _, h3 => cases h3
  | _ :: _ :: _, _, h3 => cases h3
theorem CallR2 {f : Value} {p : D → D → Option (Bool × D)}
    (h : ∀ (G : Gh) (x y : D) (o : Bool) (d : D) (v u : V) (Q : VK), Dom G → RepW W G x v → RepW W G y u → p x y = some (o, d) → Kont W G Q o d → ∃ r : List V → Hp → VK → Prop, CallR X f r ∧ r [v, u] G.H Q) : CallR X f (rC W (p2 p)) := by
  refine CallR_of fun G ds o d vs Q dm h1 h3 k => ?_
  match ds, h1, h3 with
  | [x, y], h1, h3 =>
    obtain ⟨v, u, rfl, w1, w2⟩ := two_w h1
    exact h G x y o d v u Q dm w1 w2 h3 k
  | [], _, h3 => cases h3
  | [_], _, h3 => cases h3
  | _ :: _ :: _ :: _, _, h3 => cases h3
theorem call_lenZ (hK : W.K = X.K) : CallR X (.builtin "len") (rC W (p1 lenP)) := by
  refine CallR1 fun G x o d v Q dm h1 h3 k => ?_
  unfold lenP at h3
  cases x with
  | lst es =>
    cases h3
    obtain ⟨a, vs, rfl, s1, r1⟩ := h1
    have e : (es.length : Int) = ((vs.length : Nat) : Int) := by rw [r1.len]
    refine ⟨_, call_len_seq, a, vs, rfl, .inl (.inl (.inl s1)), ?_⟩
    rw [← e]
    exact k.same rep_int
  | tup es =>
    cases h3
    obtain ⟨a, vs, rfl, s1, r1⟩ := repw_tup h1
    have e : (es.length : Int) = ((vs.length : Nat) : Int) := by rw [r1.len]
    refine ⟨_, call_len_seq, a, vs, rfl, .inr (hK ▸ s1), ?_⟩
    rw [← e]
    exact k.same rep_int
  | str z =>
    cases h3
    obtain ⟨rfl, hz⟩ := repw_str h1
    refine ⟨_, call_len_str, toS z, rfl, by rw [toS_len, ← lim_line]; exact hz.1, ?_⟩
    rw [toS_len]
    exact k.same rep_int
  | dct ks us =>
    cases h3
    obtain ⟨a, kvs, rfl, s1, rfl, r1⟩ := h1
    refine ⟨fun xs H Q => ∃ a kvs, xs = [.ref a] ∧ H a = some (.dK kvs) ∧ Q (.int kvs.length) H, ?_, a, kvs, rfl, s1, ?_⟩
    · intro pins s σ H xs us Q I r h
      obtain ⟨a, kvs, rfl, e, q⟩ := h
      obtain ⟨u, rfl, rx⟩ := vals1 r
      cases rx
      exact d_len I (.inl e) fun t s' I' => ⟨.int kvs.length, H, I', ⟨t, rfl⟩, q⟩
    · have := k.same (rep_int (W := W) (G := G))
      rw [List.length_map] at this
      exact this
  | _ => cases h3
theorem call_absZ : CallR X (.builtin "abs") (rC W (p1 absD)) := by
  refine CallR1 fun G x o d v Q dm h1 h3 k => ?_
  cases x with
  | int i =>
    cases h3
    cases repw_int h1
    exact ⟨_, call_abs, i, rfl, k.same rep_int⟩
  | _ => cases h3
theorem reps_seq {x : D} {ds : List D} {v : V} (h : RepW W G x v) (e : seqOf x = some ds) : ∃ a vs, v = .ref a ∧ (G.H a = some (.lst vs) ∨ SqT W.K G.H a vs) ∧ Reps W G ds vs := by
  cases x with
  | lst es =>
    cases e
    obtain ⟨a, vs, rfl, s1, r1⟩ := h
    exact ⟨a, vs, rfl, .inl s1, r1⟩
  | tup es =>
    cases e
    obtain ⟨a, vs, rfl, s1, r1⟩ := repw_tup h
    exact ⟨a, vs, rfl, .inr s1, r1⟩
  | _ => cases e
theorem call_tupleZ (hK : W.K = X.K) : CallR X (.type "tuple") (rC W (p1 tupleD)) := by
  refine CallR1 fun G x o d v Q dm h1 h3 k => ?_
  unfold tupleD at h3
  cases e : seqOf x with
  | none => rw [e] at h3; cases h3
  | some es =>
    rw [e] at h3; cases h3
    obtain ⟨a, ws, rfl, hs, r⟩ := reps_seq h1 e
    rcases hs with hs | hs
    · exact ⟨_, call_tuple_of, a, ws, rfl, .inl ⟨.inl (.inl hs), fun p np => k.tup dm r p np⟩⟩
    · refine ⟨_, call_tuple_of, a, ws, rfl, .inr ⟨hK ▸ hs, k.same ?_⟩⟩
      simp only [Rep]
      exact ⟨a, ws, rfl, hs, r⟩
theorem reps_ints : ∀ ns : List Int, Reps W G (ns.map D.int) (ns.map V.int)
  | [] => by simp [Reps]
  | n :: ns => by
    simp only [List.map_cons, Reps]
    exact ⟨_, _, rfl, rep_int, reps_ints ns⟩
theorem call_listZ (hK : W.K = X.K) : CallR X (.type "list") (rC W (p1 listD)) := by
  refine CallR1 fun G x o d v Q dm h1 h3 k => ?_
  cases x with
  | scr ns =>
    cases h3
    simp only [RepW, Rep] at h1
    obtain ⟨a, rfl, hs⟩ := h1
    exact ⟨_, call_list_of, a, _, rfl, .inl (hK ▸ hs.sq), fun p np => k.lst dm (reps_ints ns) p np⟩
  | lst es =>
    cases h3
    obtain ⟨a, ws, rfl, s1, r1⟩ := h1
    exact ⟨_, call_list_of, a, ws, rfl, .inl (.inl (.inl s1)), fun p np => k.lst dm r1 p np⟩
  | tup es =>
    cases h3
    obtain ⟨a, ws, rfl, s1, r1⟩ := repw_tup h1
    exact ⟨_, call_list_of, a, ws, rfl, .inr (hK ▸ s1), fun p np => k.lst dm r1 p np⟩
  | _ => cases h3
theorem all_digits {x : List Nat} (h : allDig x = true) : NumText.AllDigits x := fun c hc => by
  have := List.all_eq_true.mp h c hc
  simpa using this
theorem call_intZ : CallR X (.type "int") (rC W (p1 intD)) := by
  refine CallR1 fun G x o d v Q dm h1 h3 k => ?_
  cases x with
  | int i =>
    cases h3
    cases repw_int h1
    exact ⟨_, call_int1, .inl ⟨i, rfl, k.same rep_int⟩⟩
  | bl b =>
    cases h3
    cases repw_bl h1
    exact ⟨_, call_int1, .inr ⟨b, rfl, k.same rep_int⟩⟩
  | str z =>
    simp only [intD] at h3
    split at h3
    · rename_i q
      cases h3
      obtain ⟨rfl, hz⟩ := repw_str h1
      refine ⟨_, call_int_str, toS z, _, rfl, PySem.intText_digits (x := toS z) (all_digits q.1) q.2.1 (by rw [toS_len]; omega), by rw [toS_len]; exact q.2.2, ?_⟩
      exact k.same rep_int
    · cases h3
  | _ => cases h3
theorem digits_lt (n : Nat) : ∀ c ∈ digits n, c < 1114112 := fun c hc => by
  have := TL.numL_digits n c hc
  omega
theorem digits_lim {n : Nat} (h : n.log2 < 1920) : (digits n).length ≤ LIM := by
  have h2 : n < 10 ^ 1920 := by
    have : n < 2 ^ 1920 := by
      by_cases hn : n = 0
      · subst hn; exact Nat.two_pow_pos _
      · exact (Nat.log2_lt hn).mp h
    exact Nat.lt_of_lt_of_le this (Nat.pow_le_pow_left (by decide) _)
  have := TL.numL_len (n := n) (k := 1920) (by decide) h2
  show (TL.numL n).length ≤ 16777216
  omega
theorem call_strZ : CallR X (.type "str") (rC W (p1 strD)) := by
  refine CallR1 fun G x o d v Q dm h1 h3 k => ?_
  cases x with
  | int i =>
    simp only [strD] at h3
    split at h3
    · rename_i q
      cases h3
      cases repw_int h1
      refine ⟨_, call_str_int, i, rfl, q.2, k.same (rep_strE ⟨digits_lim q.2, digits_lt _⟩ ?_)⟩
      have e : i = ((i.natAbs : Nat) : Int) := by omega
      have := TL.tl_num i.natAbs
      rw [← e] at this
      exact this
    · cases h3
  | _ => cases h3
theorem call_ordZ : CallR X (.builtin "ord") (rC W (p1 ordD)) := by
  refine CallR1 fun G x o d v Q dm h1 h3 k => ?_
  unfold ordD at h3
  split at h3
  · rename_i c
    cases h3
    obtain ⟨rfl, hz⟩ := repw_str h1
    exact ⟨_, call_ord, toS [c], rfl, rfl, k.same rep_int⟩
  · cases h3
theorem call_divmodZ : CallR X (.builtin "divmod") (rC W (p2 divmodD)) := by
  refine CallR2 fun G x y o d v u Q dm h1 h2 h3 k => ?_
  unfold divmodD at h3
  split at h3
  · rename_i i j
    split at h3
    · rename_i q
      cases h3
      cases repw_int h1
      cases repw_int h2
      unfold divOk at q
      simp only [Bool.and_eq_true, Bool.or_eq_true, decide_eq_true_eq] at q
      refine ⟨_, call_divmodW, i, j, rfl, ⟨q.1, ?_⟩, fun p np => k.tup dm (vs := [.int (i / j), .int (i % j)]) ?_ p np⟩
      · rcases q.2 with z | z
        · exact PyProof.noPylong_small (by omega)
        · exact PyProof.noPylong_of_log2 z
      · simp only [Reps]
        exact ⟨_, _, rfl, rep_int, _, _, rfl, rep_int, rfl⟩
    · cases h3
  · cases h3
theorem allB_rep : ∀ {ds : List D} {vs : List V} {b : Bool}, Reps W G ds vs → allB ds = some b → ∃ bs : List Bool, vs = bs.map V.bl ∧ b = bs.all id
  | [], vs, b, h, e => by
    simp only [Reps] at h
    cases e
    exact ⟨[], h, rfl⟩
  | d :: ds, vs, b, h, e => by
    simp only [Reps] at h
    obtain ⟨v, r, rfl, h1, h2⟩ := h
    cases d with
    | bl c =>
      simp only [allB] at e
      cases q : allB ds with
      | none => rw [q] at e; cases e
      | some c2 =>
        rw [q] at e; cases e
        obtain ⟨bs, rfl, rfl⟩ := allB_rep h2 q
        cases repw_bl h1.w
        exact ⟨c :: bs, rfl, rfl⟩
    | _ => cases e
theorem anyB_rep : ∀ {ds : List D} {vs : List V} {b : Bool}, Reps W G ds vs → anyB ds = some b → ∃ bs : List Bool, vs = bs.map V.bl ∧ b = bs.any id
  | [], vs, b, h, e => by
    simp only [Reps] at h
    cases e
    exact ⟨[], h, rfl⟩
  | d :: ds, vs, b, h, e => by
    simp only [Reps] at h
    obtain ⟨v, r, rfl, h1, h2⟩ := h
    cases d with
    | bl c =>
      simp only [anyB] at e
      cases q : anyB ds with
      | none => rw [q] at e; cases e
      | some c2 =>
        rw [q] at e; cases e
        obtain ⟨bs, rfl, rfl⟩ := anyB_rep h2 q
        cases repw_bl h1.w
        exact ⟨c :: bs, rfl, rfl⟩
    | _ => cases e
theorem sumI_rep : ∀ {ds : List D} {vs : List V} {i : Int}, Reps W G ds vs → sumI ds = some i → ∃ ns : List Int, vs = ns.map V.int ∧ i = ns.sum
  | [], vs, b, h, e => by
    simp only [Reps] at h
    cases e
    exact ⟨[], h, rfl⟩
  | d :: ds, vs, b, h, e => by
    simp only [Reps] at h
    obtain ⟨v, r, rfl, h1, h2⟩ := h
    cases d with
    | int c =>
      simp only [sumI] at e
      cases q : sumI ds with
      | none => rw [q] at e; cases e
      | some c2 =>
        rw [q] at e; cases e
        obtain ⟨bs, rfl, rfl⟩ := sumI_rep h2 q
        cases repw_int h1.w
        exact ⟨c :: bs, rfl, rfl⟩
    | _ => cases e
theorem strsOf_rep : ∀ {ds : List D} {vs : List V} {xs : List (List Nat)}, Reps W G ds vs → strsOf ds = some xs → vs = (xs.map toS).map V.str ∧ ∀ x ∈ xs, TxtOk x
  | [], vs, b, h, e => by
    simp only [Reps] at h
    cases e
    exact ⟨h, fun x hx => by cases hx⟩
  | d :: ds, vs, b, h, e => by
    simp only [Reps] at h
    obtain ⟨v, r, rfl, h1, h2⟩ := h
    cases d with
    | str c =>
      simp only [strsOf] at e
      cases q : strsOf ds with
      | none => rw [q] at e; cases e
      | some c2 =>
        rw [q] at e; cases e
        obtain ⟨rfl, hz⟩ := strsOf_rep h2 q
        obtain ⟨rfl, hc⟩ := repw_str h1.w
        exact ⟨rfl, fun x hx => (List.mem_cons.mp hx).elim (fun z => z ▸ hc) (hz x)⟩
    | _ => cases e
theorem call_allZ (hc : X.calm = true) : CallR X (.builtin "all") (rC W (p1 allD)) := by
  refine CallR1 fun G x o d v Q dm h1 h3 k => ?_
  unfold allD at h3
  split at h3
  · rename_i ds
    cases e : allB ds with
    | none => rw [e] at h3; cases h3
    | some b =>
      rw [e] at h3; cases h3
      obtain ⟨a, vs, rfl, s1, r1⟩ := h1
      obtain ⟨bs, rfl, rfl⟩ := allB_rep r1 e
      exact ⟨_, cr_all hc, a, bs, rfl, .inl (.inl s1), k.same rep_bl⟩
  · cases h3
theorem call_anyZ (hc : X.calm = true) : CallR X (.builtin "any") (rC W (p1 anyD)) := by
  refine CallR1 fun G x o d v Q dm h1 h3 k => ?_
  unfold anyD at h3
  split at h3
  · rename_i ds
    cases e : anyB ds with
    | none => rw [e] at h3; cases h3
    | some b =>
      rw [e] at h3; cases h3
      obtain ⟨a, vs, rfl, s1, r1⟩ := h1
      obtain ⟨bs, rfl, rfl⟩ := anyB_rep r1 e
      exact ⟨_, cr_any hc, a, bs, rfl, .inl (.inl s1), k.same rep_bl⟩
  · cases h3
theorem call_sumZ (hc : X.calm = true) : CallR X (.builtin "sum") (rC W (p1 sumD)) := by
  refine CallR1 fun G x o d v Q dm h1 h3 k => ?_
  unfold sumD at h3
  split at h3
  · rename_i ds
    cases e : sumI ds with
    | none => rw [e] at h3; cases h3
    | some b =>
      rw [e] at h3; cases h3
      obtain ⟨a, vs, rfl, s1, r1⟩ := h1
      obtain ⟨ns, rfl, rfl⟩ := sumI_rep r1 e
      exact ⟨_, cr_sum hc, a, ns, rfl, .inl (.inl s1), k.same rep_int⟩
  · cases h3
end
end Z

set_option Elab.async false
set_option linter.all false
set_option maxRecDepth 100000
set_option maxHeartbeats 1000000
set_option autoImplicit false
/-! ZPrim3: isinstance, sorted, methods. -/
namespace Z
open PySem PySem.Spec PyProof.Rows L2
section
variable {W : Wo} {X : Cx} {G : Gh}
def tyName : Ty → String
  | .int => "int" | .bool => "bool" | .str => "str" | .tuple => "tuple" | .list => "list" | .dict => "dict"
def tyOf : D → Option String
  | .non => some "NoneType"
  | .bl _ => some "bool"
  | .int _ => some "int"
  | .str _ => some "str"
  | .tup _ => some "tuple"
  | .lst _ => some "list"
  | .dct _ _ => some "dict"
  | _ => none
theorem ty_rep (hK : W.K = X.K) {x : D} {v : V} {T : String} (h : RepW W G x v) (e : tyOf x = some T) : TyX X.K G.H v (.type T) := by
  cases x with
  | non => cases e; cases repw_non h; exact .base .non
  | bl b => cases e; cases repw_bl h; exact .base (.bl b)
  | int i => cases e; cases repw_int h; exact .base (.int i)
  | str z => cases e; cases (repw_str h).1; exact .base (.str _)
  | tup ds =>
    cases e
    obtain ⟨a, vs, rfl, s1, r1⟩ := repw_tup h
    rcases s1 with (s1 | ⟨o, s1⟩) | ⟨o, its, n, s1, s2, _⟩
    · exact .base (.tup s1)
    · exact .fTuple s1
    · exact .kTuple (hK ▸ s1) s2
  | lst ds =>
    cases e
    obtain ⟨a, vs, rfl, s1, r1⟩ := h
    exact .base (.lst s1)
  | dct ks us =>
    cases e
    obtain ⟨a, kvs, rfl, s1, _⟩ := h
    exact .base (.dK s1)
  | _ => cases e
theorem kit_tab {K : PySem.W.Frag} (t : Ty) (x : D) (b : Bool) (e : isiD t x = some b) : ∃ T, tyOf x = some T ∧ PySem.W.kitOne K (.type T) (.type (tyName t)) = some b := by
  cases x <;> cases t <;> first
    | (cases e; done)
    | (cases e; refine ⟨_, rfl, kit_ty ?_⟩; decide +kernel)
    | skip
theorem call_isiZ (hK : W.K = X.K) (t : Ty) : CallR X (.builtin "isinstance") (fun vs H Q => ∃ v, vs = [v, .ty (tyName t)] ∧ rC W (p1 (isiP t)) [v] H Q) := by
  intro pins s σ H xs us Q I r q
  obtain ⟨v, rfl, G, ds, o, d, rfl, dm, h1, h3, k⟩ := q
  match ds, h1, h3 with
  | [x], h1, h3 =>
    obtain ⟨v', e, w1⟩ := one_w h1
    cases e
    have h3 : isiP t x = some (o, d) := h3
    unfold isiP at h3
    cases e : isiD t x with
    | none => rw [e] at h3; cases h3
    | some b =>
      rw [e] at h3; cases h3
      obtain ⟨T, e1, e2⟩ := kit_tab (K := X.K) t x b e
      exact call_isi pins s σ _ _ us Q I r ⟨v, .ty (tyName t), .type T, .type (tyName t), b, rfl, .ty _, ty_rep hK w1 e1, e2, k.same rep_bl⟩
  | [], _, h3 => cases h3
  | _ :: _ :: _, _, h3 => cases h3

/-! ### methods -/
def rM (W : Wo) (p : List D → Option (Bool × D)) : V → List V → Hp → VK → Prop := fun x vs H Q => ∃ (G : Gh) (d : D) (ds : List D) (o : Bool) (r : D), G.H = H ∧ Dom G ∧ RepW W G d x ∧ RepsW W G ds vs ∧ p (d :: ds) = some (o, r) ∧ Kont W G Q o r
def m1 (f : D → D → Option (Bool × D)) (ds : List D) : Option (Bool × D) := match ds with
  | [o, x] => f o x
  | _ => none
def m2 (f : D → D → D → Option (Bool × D)) (ds : List D) : Option (Bool × D) := match ds with
  | [o, x, y] => f o x y
  | _ => none
theorem MtR1 {id : String} {p : D → D → Option (Bool × D)}
    (h : ∀ (G : Gh) (d e : D) (o : Bool) (r : D) (x v : V) (Q : VK), Dom G → RepW W G d x → RepW W G e v → p d e = some (o, r) → Kont W G Q o r → ∃ q : V → List V → Hp → VK → Prop, MtR X id q ∧ q x [v] G.H Q) : MtR X id (rM W (m1 p)) := by
  intro pins s σ H x xs v us Q I rx rs q
  obtain ⟨G, d, ds, o, r, rfl, dm, h1, h2, h3, k⟩ := q
  match ds, h2, h3 with
  | [e], h2, h3 =>
    obtain ⟨w, rfl, w2⟩ := one_w h2
    obtain ⟨r, hr, q⟩ := h G d e o r x w Q dm h1 w2 h3 k
    exact hr pins s σ _ x _ v us Q I rx rs q
  | [], _, h3 => cases h3
  | _ :: _ :: _, _, h3 => cases h3
theorem MtR2 {id : String} {p : D → D → D → Option (Bool × D)}
    (h : ∀ (G : Gh) (d e f : D) (o : Bool) (r : D) (x v u : V) (Q : VK), Dom G → RepW W G d x → RepW W G e v → RepW W G f u → p d e f = some (o, r) → Kont W G Q o r → ∃ q : V → List V → Hp → VK → Prop, MtR X id q ∧ q x [v, u] G.H Q) : MtR X id (rM W (m2 p)) := by
  intro pins s σ H x xs v us Q I rx rs q
  obtain ⟨G, d, ds, o, r, rfl, dm, h1, h2, h3, k⟩ := q
  match ds, h2, h3 with
  | [e, f], h2, h3 =>
    obtain ⟨w, w', rfl, w2, w3⟩ := two_w h2
    obtain ⟨r, hr, q⟩ := h G d e f o r x w w' Q dm h1 w2 w3 h3 k
    exact hr pins s σ _ x _ v us Q I rx rs q
  | [], _, h3 => cases h3
  | [_], _, h3 => cases h3
  | _ :: _ :: _ :: _, _, h3 => cases h3
theorem joinL_eq (sep : List Nat) : ∀ xs : List (List Nat), joinL sep xs = TL.joinL sep xs
  | [] => rfl
  | [x] => rfl
  | x :: y :: r => by
    have := joinL_eq sep (y :: r)
    simp only [joinL, TL.joinL] at this ⊢
    rw [this, List.append_assoc]
theorem joinLen_eq (sep : List Nat) : ∀ xs : List (List Nat), joinLen sep xs = ((xs.map toS).map (·.length)).sum + (xs.map toS).length * sep.length
  | [] => by simp [joinLen]
  | x :: r => by
    have := joinLen_eq sep r
    unfold joinLen at this ⊢
    simp only [List.map_cons, List.sum_cons, List.length_cons, this, toS_len, Nat.succ_mul]
    omega
theorem joinL_len (sep : List Nat) : ∀ xs : List (List Nat), (joinL sep xs).length ≤ joinLen sep xs
  | [] => by simp [joinL]
  | [x] => by simp [joinL, joinLen]
  | x :: y :: r => by
    have := joinL_len sep (y :: r)
    unfold joinLen at this ⊢
    simp only [joinL, List.length_append, List.map_cons, List.sum_cons] at this ⊢
    omega
theorem joinL_mem {sep : List Nat} {c : Nat} : ∀ {xs : List (List Nat)}, c ∈ joinL sep xs → c ∈ sep ∨ ∃ x ∈ xs, c ∈ x
  | [], h => by cases h
  | [x], h => .inr ⟨x, by simp, h⟩
  | x :: y :: r, h => by
    simp only [joinL, List.mem_append] at h
    rcases h with (h | h) | h
    · exact .inr ⟨x, by simp, h⟩
    · exact .inl h
    · rcases joinL_mem h with h | ⟨z, h1, h2⟩
      · exact .inl h
      · exact .inr ⟨z, List.mem_cons_of_mem _ h1, h2⟩
theorem mt_joinZ (hK : W.K = X.K) : MtR X "str.join" (rM W (m1 joinD)) := by
  refine MtR1 fun G d z o r x v Q dm h1 w2 h3 k => ?_
  cases d with
  | str sep =>
    simp only [joinD] at h3
    obtain ⟨rfl, hz⟩ := repw_str h1
    cases e : seqOf z with
    | none => simp only [e] at h3; cases h3
    | some es =>
      simp only [e] at h3
      cases e2 : strsOf es with
      | none => simp only [e2] at h3; cases h3
      | some xs =>
        simp only [e2] at h3
        split at h3
        · rename_i hl
          cases h3
          obtain ⟨a, ws, rfl, hs, r⟩ := reps_seq w2 e
          obtain ⟨rfl, ht⟩ := strsOf_rep r e2
          refine ⟨_, mt_join, toS sep, a, xs.map toS, rfl, rfl, hs.elim (fun q => .inl (.inl (.inl q))) (fun q => .inr (hK ▸ q)), ?_, k.same (rep_strE ⟨Nat.le_trans (joinL_len sep xs) hl, fun c hc => ?_⟩ ?_)⟩
          · rw [toS_len]
            have := joinLen_eq sep xs
            have hL : LIM = 16777216 := rfl
            omega
          · rcases joinL_mem hc with hc | ⟨y, hy, hc⟩
            · exact hz.2 c hc
            · exact (ht y hy).2 c hc
          · have := TL.tl_join (toS sep) (xs.map toS)
            rw [TL.join_eq]
            show TL.tl _ = _
            rw [this, joinL_eq, List.map_map]
            congr 1
            exact (List.map_id xs)
        · cases h3
  | _ => cases h3
theorem padded_zero (x : List Nat) (m : Nat) : (PySem.Builtin.Str.padded (toS x) m 0 48).cps.toList = List.replicate m 48 ++ x := by
  simp [PySem.Builtin.Str.padded, toS]
theorem mt_zfillZ : MtR X "str.zfill" (rM W (m1 zfillD)) := by
  refine MtR1 fun G d z o r x v Q dm h1 w2 h3 k => ?_
  unfold zfillD at h3
  split at h3
  · rename_i y n
    split at h3
    · rename_i q
      cases h3
      obtain ⟨rfl, hz⟩ := repw_str h1
      cases repw_int w2
      refine ⟨_, mt_zfill, toS y, n, rfl, rfl, ?_, k.same (rep_strE ⟨?_, fun c hc => ?_⟩ ?_)⟩
      · show (fitsSsize n && !Builtin.Str.tooLong n.toNat) = true
        unfold Builtin.Str.tooLong
        have hs := sizeLine_eq
        have e1 : decide (n.toNat > sizeLine) = false := decide_eq_false (by omega)
        rw [e1]
        simp [fitsSsize]
        omega
      · rw [List.length_append, List.length_replicate]
        have := hz.1
        have hL : LIM = 16777216 := rfl
        omega
      · rcases List.mem_append.mp hc with hc | hc
        · rw [List.eq_of_mem_replicate hc]; decide
        · exact hz.2 c hc
      · unfold Txt.zfill
        rw [toS_len]
        by_cases hn : n ≤ (y.length : Int)
        · rw [if_pos hn]
          have : n.toNat - y.length = 0 := by omega
          rw [this]
          rfl
        · rw [if_neg hn]
          have ha := all_digits q.1
          have : zfilled (toS y) (n.toNat - y.length) = Builtin.Str.padded (toS y) (n.toNat - y.length) 0 48 := by
            unfold zfilled
            have hh : ∀ c, (toS y).cps[0]? = some c → c ≠ 43 ∧ c ≠ 45 := fun c hc => by
              have hc' : y[0]? = some c := by simpa [toS] using hc
              have := ha c (List.mem_of_getElem? hc')
              omega
            split
            · rename_i e
              exact absurd rfl (hh _ e).1
            · rename_i e
              exact absurd rfl (hh _ e).2
            · rfl
          rw [this, padded_zero]
    · cases h3
  · cases h3
theorem mt_getZ1 (hu : X.A.units + 1 < cLine) : MtR X "dict.get" (fun x xs H Q => ∃ a y o, x = .ref a ∧ xs = [y] ∧ DGet H a y o ∧ Q (o.getD .non) H) := by
  intro pins s σ H x xs v us Q I rx rs h
  obtain ⟨a, y, o, rfl, rfl, g, q⟩ := h
  cases rx
  obtain ⟨u, rfl, ry⟩ := vals1 rs
  exact d_get1 hu I g ry fun w' s' I' r' => ⟨_, H, I', r', q⟩
theorem mt_getZ2 (hu : X.A.units + 1 < cLine) : MtR X "dict.get" (fun x xs H Q => ∃ a y z o, x = .ref a ∧ xs = [y, z] ∧ DGet H a y o ∧ Q (o.getD z) H) := by
  intro pins s σ H x xs v us Q I rx rs h
  obtain ⟨a, y, z, o, rfl, rfl, g, q⟩ := h
  cases rx
  obtain ⟨u, u', rfl, ry, rz⟩ := vals2 rs
  exact d_get2 hu I g ry rz fun w' s' I' r' => ⟨_, H, I', r', q⟩
theorem mt_get1Z (hu : X.A.units + 1 < cLine) : MtR X "dict.get" (rM W (m1 get1D)) := by
  refine MtR1 fun G d z o r x v Q dm h1 w2 h3 k => ?_
  cases d with
  | dct ks us =>
    simp only [get1D] at h3
    split at h3
    · rename_i p
      cases h3
      obtain ⟨key, rfl, rfl⟩ := key_rep w2 p
      obtain ⟨a, kvs, rfl, e1, rfl, r⟩ := h1
      rcases look_rep key kvs us r with ⟨e2, e3⟩ | ⟨d', v, e2, e3, rv⟩
      · rw [e2] at k
        exact ⟨_, mt_getZ1 hu, a, kV key, none, rfl, rfl, e3 ▸ DGet.k e1, k.same rep_non⟩
      · rw [e2] at k
        exact ⟨_, mt_getZ1 hu, a, kV key, some v, rfl, rfl, e3 ▸ DGet.k e1, k.same rv⟩
    · cases h3
  | _ => cases h3
theorem flat_rep {d : D} {v : V} (h : RepW W G d v) (f : flatD d = true) : Rep W G d v := by
  cases d with
  | lst _ => cases f
  | dct _ _ => cases f
  | _ => exact h
theorem mt_get2Z (hu : X.A.units + 1 < cLine) : MtR X "dict.get" (rM W (m2 get2D)) := by
  refine MtR2 fun G d z f o r x v u Q dm h1 w2 w3 h3 k => ?_
  cases d with
  | dct ks us =>
    simp only [get2D] at h3
    split at h3
    · rename_i p
      cases h3
      rw [Bool.and_eq_true] at p
      obtain ⟨key, rfl, rfl⟩ := key_rep w2 p.1
      obtain ⟨a, kvs, rfl, e1, rfl, r⟩ := h1
      rcases look_rep key kvs us r with ⟨e2, e3⟩ | ⟨d', v, e2, e3, rv⟩
      · rw [e2] at k
        exact ⟨_, mt_getZ2 hu, a, kV key, u, none, rfl, rfl, e3 ▸ DGet.k e1, k.same (flat_rep w3 p.2)⟩
      · rw [e2] at k
        exact ⟨_, mt_getZ2 hu, a, kV key, u, some v, rfl, rfl, e3 ▸ DGet.k e1, k.same rv⟩
    · cases h3
  | _ => cases h3
theorem findN_none {c : Nat} : ∀ {x : List Nat}, findN c x = none → c ∉ x
  | [], _ => by simp
  | y :: r, h => by
    unfold findN at h
    split at h
    · cases h
    · rename_i n
      cases e : findN c r with
      | none =>
        have := findN_none e
        intro z
        rcases List.mem_cons.mp z with z | z
        · exact n z.symm
        · exact this z
      | some k => rw [e] at h; cases h
theorem findN_some {c : Nat} : ∀ {x : List Nat} {k : Nat}, findN c x = some k → x[k]? = some c ∧ ∀ (j : Nat), j < k → x[j]? ≠ some c
  | [], k, h => by cases h
  | y :: r, k, h => by
    unfold findN at h
    split at h
    · rename_i e
      cases h
      subst e
      exact ⟨rfl, fun j hj => absurd hj (Nat.not_lt_zero j)⟩
    · rename_i n
      cases e : findN c r with
      | none => rw [e] at h; cases h
      | some k' =>
        rw [e] at h
        cases h
        obtain ⟨h1, h2⟩ := findN_some e
        refine ⟨by simpa using h1, fun j hj => ?_⟩
        cases j with
        | zero =>
          simp
          exact n
        | succ j => simpa using h2 j (by omega)
theorem find3_eq (x : List Nat) (c : Nat) (i : Int) (h0 : 0 ≤ i) : Txt.find3 (toS x) (toS [c]) i = match findN c (x.drop i.toNat) with
      | some k => ((i.toNat + k : Nat) : Int)
      | none => -1 := by
  have ef : fromIndex (toS x).length i = i.toNat := by
    unfold fromIndex
    rw [if_neg (by omega)]
    omega
  have gd : ∀ v : Nat, (toS x).cps.getD v 0 = x.getD v 0 := fun v => by simp [toS, Array.getD, List.getD]; split <;> simp_all
  rcases StrLaws.find3_spec (toS x) c i with ⟨h, hn⟩ | ⟨k, h, h1, h2, h3, h4⟩
  · rw [ef] at hn
    have h : Txt.find3 (toS x) (toS [c]) i = -1 := h
    rw [h]
    cases e : findN c (x.drop i.toNat) with
    | none => rfl
    | some k =>
      obtain ⟨a, _⟩ := findN_some e
      rw [List.getElem?_drop] at a
      have hl : i.toNat + k < x.length := (List.getElem?_eq_some_iff.mp a).1
      have := hn (i.toNat + k) (by omega) (by rw [toS_len]; exact hl)
      rw [gd] at this
      exact absurd (by rw [List.getD_eq_getElem?_getD, a]; rfl) this
  · rw [ef] at h1 h4
    have h : Txt.find3 (toS x) (toS [c]) i = (k : Int) := h
    rw [h]
    rw [toS_len] at h2
    rw [gd] at h3
    have hk : x[k]? = some c := by rw [List.getElem?_eq_getElem h2]; rw [List.getD_eq_getElem?_getD, List.getElem?_eq_getElem h2] at h3; simpa using h3
    cases e : findN c (x.drop i.toNat) with
    | none =>
      have := findN_none e
      refine absurd ?_ this
      have : (x.drop i.toNat)[k - i.toNat]? = some c := by rw [List.getElem?_drop]; rw [show i.toNat + (k - i.toNat) = k by omega]; exact hk
      exact List.mem_of_getElem? this
    | some m =>
      obtain ⟨a, b⟩ := findN_some e
      rw [List.getElem?_drop] at a
      have hm : i.toNat + m = k := by
        rcases Nat.lt_trichotomy (i.toNat + m) k with q | q | q
        · have hl : i.toNat + m < x.length := by omega
          have := h4 (i.toNat + m) (by omega) q
          rw [gd] at this
          exact absurd (by rw [List.getD_eq_getElem?_getD, a]; rfl) this
        · exact q
        · have := b (k - i.toNat) (by omega)
          rw [List.getElem?_drop, show i.toNat + (k - i.toNat) = k by omega] at this
          exact absurd hk this
      show (k : Int) = ((i.toNat + m : Nat) : Int)
      rw [hm]
theorem mt_find3Z : MtR X "str.find" (rM W (m2 find3D)) := by
  refine MtR2 fun G d z f o r x v u Q dm h1 w2 w3 h3 k => ?_
  unfold find3D at h3
  split at h3
  · split at h3
    · split at h3
      · rename_i hi
        cases h3
        obtain ⟨rfl, _⟩ := repw_str h1
        obtain ⟨rfl, _⟩ := repw_str w2
        cases repw_int w3
        refine ⟨_, mt_find3, _, _, _, rfl, rfl, ?_⟩
        rw [find3_eq _ _ _ hi]
        exact k.same rep_int
      · cases h3
    · cases h3
  · cases h3
end
end Z

set_option Elab.async false
set_option linter.all false
set_option maxRecDepth 100000
set_option maxHeartbeats 2000000
set_option autoImplicit false
/-! ZChk: does a piece of the text say what an E, a T, an S says? -/
namespace Z
open PySem PySem.Spec PyProof.Rows L2

/-- the names of a program: defs, constants, classes, fields, methods by number -/
structure Nm where
  fn : List Str
  gl : List Str
  cl : List Str
  fl : List Str
  mt : List Str
  ex : List Str
  own : List Nat
  pn : List (List Str)
def visB (sc : Scope) (x : Str) : Bool := match sc.names.lookup x with
  | some .local => true
  | some .cell => true
  | some .free => true
  | _ => false
def locB (sc : Scope) (x : Str) : Bool := match sc.names.lookup x with
  | some .local => true
  | some .cell => true
  | _ => false
def localB (sc : Scope) (x : Str) : Bool := match sc.names.lookup x with
  | some .local => true
  | _ => false
def glB (sc : Scope) (x : Str) : Bool := match sc.names.lookup x with
  | some .globalImplicit => true
  | _ => false
def okName (x : Str) : Bool := !(x == ("__debug__" : Str)) && !(x == ("__classdict__" : Str)) && !(x == ("__name__" : Str))
def isVar (N : List Str) (sc : Scope) (i : Nat) : Expr → Bool
  | .Name x _ => decide (N[i]? = some x) && visB sc x && okName x
  | _ => false
def isGl (ns : List Str) (sc : Scope) (i : Nat) : Expr → Bool
  | .Name x _ => decide (ns[i]? = some x) && glB sc x && okName x
  | _ => false
def nstar : Expr → Bool
  | .Starred _ _ => false
  | _ => true
def nsup : Expr → Bool
  | .Call (.Name _ _) [] [] _ => false
  | _ => true
def plainIxB : Expr → Bool
  | .Slice _ _ _ _ => false
  | _ => true
/-- a built-in by its name, of one or two operands -/
def isBlt (sc : Scope) (n : String) : Expr → Bool
  | .Name x _ => decide (x = Str.ofString n) && glB sc x
  | _ => false
def bltName : Prim → String
  | .len => "len" | .abs => "abs" | .tupleOf => "tuple" | .listOf => "list" | .intOf => "int" | .strOf => "str" | .ordOf => "ord" | .allOf => "all" | .anyOf => "any" | .sumOf => "sum"
  | .divmodOf => "divmod" | .sortedOf => "sorted" | _ => ""
def bltNames : List String := ["len", "abs", "tuple", "list", "int", "str", "ord", "all", "any", "sum", "divmod", "sorted", "isinstance", "range", "enumerate", "zip", "bool", "dict"]
def litB : D → Const → Bool
  | .non, .none => true
  | .bl b, .bool c => b == c
  | .int i, .int j => i == j
  | .str x, .str z => z.cps.toList == x && decide (x.length ≤ LIM) && x.all fun c => decide (c < 1114112)
  | _, _ => false
/-- the operands -/
def shape (sc : Scope) (p : Prim) (e : Expr) : Option (List Expr) := match p with
  | .bin op => match e with
    | .BinOp a o b _ => if o = op then some [a, b] else none
    | _ => none
  | .cmp op => match e with
    | .Compare a [o] [b] _ => if o = op ∧ behindInMarks o b = false then some [a, b] else none
    | _ => none
  | .neg => match e with
    | .UnaryOp .USub a _ => some [a]
    | _ => none
  | .ix => match e with
    | .Subscript a b _ => if plainIxB b then some [a, b] else none
    | _ => none
  | .rev => match e with
    | .Subscript a (.Slice none none (some (.UnaryOp .USub (.Constant (.int 1) _ _) _)) _) _ => some [a]
    | _ => none
  | .divmodOf => match e with
    | .Call f [a, b] [] _ => if isBlt sc "divmod" f then some [a, b] else none
    | _ => none
  | .isi t => match e with
    | .Call f [a, b] [] _ => if isBlt sc "isinstance" f ∧ isBlt sc (tyName t) b then some [a] else none
    | _ => none
  | .isNone n => match e with
    | .Compare a [o] [.Constant .none _ _] _ => if o = (if n then .IsNot else .Is) then some [a] else none
    | _ => none
  | .sortedOf => none
  | p => match e with
    | .Call f [a] [] _ => if isBlt sc (bltName p) f then some [a] else none
    | _ => none
def mpName : MPrim → String
  | .join => "join" | .zfill => "zfill" | .find3 => "find" | .get1 => "get" | .get2 => "get" | .index => "index" | .startswith => "startswith"
def mar : MPrim → Nat
  | .join => 1 | .zfill => 1 | .find3 => 2 | .get1 => 1 | .get2 => 2 | .index => 99 | .startswith => 99
def uar : Mut → Nat
  | .append => 1 | .pop => 0 | .extend => 1 | .insert => 2 | .popAt => 99
def muName : Mut → String
  | .append => "append" | .pop => "pop" | .extend => "extend" | .insert => "insert" | .popAt => "pop"
/-- a method called: the receiver, the operands -/
def mshape (n : String) (e : Expr) : Option (Expr × List Expr) := match e with
  | .Call (.Attribute o name apos) es [] pos => if name = Str.ofString n ∧ nsup o = true ∧ (apos.endLine == pos.line) = true ∧ es.length < 20 then some (o, es) else none
  | _ => none
def bopIs (b : Bool) : BoolOp → Bool
  | .And => b
  | .Or => !b
/-- an expression whose test is its value's truth -/
def plainT : Expr → Bool
  | .Compare _ _ _ _ => false
  | .BoolOp _ _ _ => false
  | .UnaryOp .Not _ _ => false
  | .IfExp _ _ _ _ => false
  | _ => true
def rgShape (sc : Scope) (n : String) (e : Expr) : Option (List Expr) := match e with
  | .Call f es [] _ => if isBlt sc n f then some es else none
  | _ => none
mutual
def tgv : Tg → List Nat
  | .v i => [i]
  | .tup ts => tgvs ts
def tgvs : List Tg → List Nat
  | [] => []
  | t :: ts => tgv t ++ tgvs ts
end
mutual
def chkTg (N : List Str) (sc : Scope) : Expr → Tg → Bool
  | e, .v i => match e with
    | .Name x _ => decide (N[i]? = some x) && locB sc x
    | _ => false
  | e, .tup ts => match e with
    | .Tuple es _ _ => chkTgs N sc es ts
    | _ => false
def chkTgs (N : List Str) (sc : Scope) : List Expr → List Tg → Bool
  | [], [] => true
  | e :: es, t :: ts => chkTg N sc e t && nstar e && chkTgs N sc es ts
  | _, _ => false
end
def notSet : Expr → Bool
  | .Set _ _ _ => false
  | _ => true
def isTupE : Expr → Bool
  | .Tuple _ _ _ => true
  | _ => false
/-- a target of this kind -/
def itTg : It → Expr → Bool
  | .enum _, e => isTupE e
  | .zip _ _, e => isTupE e
  | _, _ => true
mutual
def chkE (n : Nm) (N : List Str) (sc : Scope) : Expr → E → Bool
  | e, .v i => isVar N sc i e
  | e, .lit d => match e with
    | .Constant c _ _ => litB d c
    | _ => false
  | e, .g i => isGl n.gl sc i e
  | e, .fn f => isGl n.fn sc f e
  | e, .pr p is => match shape sc p e with
    | some es => chkEs n N sc es is
    | none => false
  | e, .sl a lo hi => match e with
    | .Subscript x (.Slice l h none _) _ => chkE n N sc x a && chkO n N sc l lo && chkO n N sc h hi
    | _ => false
  | e, .mp m o is => match mshape (mpName m) e with
    | some (x, es) => es.length == mar m && chkE n N sc x o && chkEs n N sc es is
    | none => false
  | e, .mu m o is => match mshape (muName m) e with
    | some (x, es) => es.length == uar m && chkE n N sc x o && chkEs n N sc es is
    | none => false
  | e, .tup is => match e with
    | .Tuple es _ _ => chkEs n N sc es is
    | _ => false
  | e, .lst is => match e with
    | .List es _ => chkEs n N sc es is
    | _ => false
  | _, .dct _ _ => false
  | e, .cell i => chkE n N sc e i
  | e, .call f is => match e with
    | .Call g es [] _ => isGl n.fn sc f g && chkEs n N sc es is
    | _ => false
  | e, .callv i is => match e with
    | .Call g es [] _ => isVar N sc i g && !es.isEmpty && chkEs n N sc es is
    | _ => false
  | e, .notV i => match e with
    | .UnaryOp .Not x _ => chkE n N sc x i
    | _ => false
  | e, .bopV b is => match e with
    | .BoolOp op es _ => bopIs b op && chkEs n N sc es is
    | _ => false
  | e, .ite t a b => match e with
    | .IfExp c x y _ => chkT n N sc c t && chkE n N sc x a && chkE n N sc y b
    | _ => false
  | e, .comp tg vs it ifs x => match e with
    | .ListComp elt [⟨te, ie, ce, k⟩] scope _ => k == 0 && chkIt n N sc ie it && itTg it te && notSet ie && blkC N sc scope (vs.map fun v => (N.getD v Str.empty, v)) && chkTg N scope te tg && (tgv tg).all (fun v => decide (v ∈ vs)) && chkTs n N (relS scope sc) ce ifs && chkE n N (relS scope sc) elt x && (vs.all fun v => decide (v < N.length))
    | _ => false
  | _, .fld _ _ => false
  | _, .mk _ _ => false
  | _, .mc _ _ _ => false
def chkO (n : Nm) (N : List Str) (sc : Scope) : Option Expr → Option E → Bool
  | none, none => true
  | some e, some i => chkE n N sc e i
  | _, _ => false
def chkEs (n : Nm) (N : List Str) (sc : Scope) : List Expr → List E → Bool
  | [], [] => true
  | e :: es, i :: is => chkE n N sc e i && nstar e && chkEs n N sc es is
  | _, _ => false
def chkT (n : Nm) (N : List Str) (sc : Scope) : Expr → T → Bool
  | e, .cmp op a b => match e with
    | .Compare x [o] [y] _ => decide (o = op) && !behindInMarks o y && chkE n N sc x a && chkE n N sc y b
    | _ => false
  | e, .e a => plainT e && chkE n N sc e a
  | e, .not t => match e with
    | .UnaryOp .Not x _ => chkT n N sc x t
    | _ => false
  | e, .bop b ts => match e with
    | .BoolOp op es _ => bopIs b op && chkTs n N sc es ts
    | _ => false
def chkTs (n : Nm) (N : List Str) (sc : Scope) : List Expr → List T → Bool
  | [], [] => true
  | e :: es, t :: ts => chkT n N sc e t && nstar e && chkTs n N sc es ts
  | _, _ => false
def chkIt (n : Nm) (N : List Str) (sc : Scope) : Expr → It → Bool
  | e, .seq i => chkE n N sc e i
  | e, .rng is => match rgShape sc "range" e with
    | some es => decide (es.length ≤ 3) && chkEs n N sc es is
    | none => false
  | e, .enum i => match rgShape sc "enumerate" e with
    | some [a] => chkE n N sc a i
    | _ => false
  | e, .zip i j => match rgShape sc "zip" e with
    | some [a, b] => chkE n N sc a i && chkE n N sc b j
    | _ => false
end

/-! ### the context of a body -/
/-- what a def promises: the interpreter's answer -/
def FrF (G G' : Gh) : Prop := Frm G [] G' []
def CsRep (W : Wo) (G : Gh) (S : List Cell) : Prop := G.M.length = S.length ∧ (∀ (n : Nat) (c : Cell), S[n]? = some c → ∃ a : Addr, G.M[n]? = some a ∧ CRep W G c a ∧ ¬ G.F a) ∧ G.M.Nodup ∧ Dom G
def spZ (W : Wo) (f : List D → List Cell → FRes) : Sp := fun vs H Q E => ∃ (G : Gh) (ds : List D) (S : List Cell), G.H = H ∧ CsRep W G S ∧ Reps W G ds vs ∧ match f ds S with
  | .ok o d S' => ∀ v G', FrF G G' → CsRep W G' S' → RO W G [] G' [] ⟨[], S'⟩ (o, d) v → Q v G'.H
  | .exn x S' => ∀ G' cls dx, FrF G G' → CsRep W G' S' → XRep W G' x cls dx → E cls dx G'.H
  | .stuck => False
structure FnFact (W : Wo) (X : Cx) (k : Nat) (nm : Nm) (t : Tbl) (f : Nat) (fn : Fn) : Prop where
  ex : ∃ (x : Str) (a : Addr) (fd : FuncData) (ps : List Str), nm.fn[f]? = some x ∧ W.fa f = some a ∧ X.mg x = some (.ref a) ∧ PySem.W.keepIn X.K (.ref a) = true ∧ Binds X.K fd ps [] ∧ ps.length = fn.np ∧
    FnOk X.prog X.w X.K X.mg X.base (CX X.prog X.w) (2 * k) a fd ps (spZ W (Phi t k f))
/-- the exceptions' classes -/
structure ExF (W : Wo) (nm : Nm) (t : Tbl) (K : PySem.W.Frag) (mg : Str → Option Value) : Prop where
  xa : ∀ (c : Nat) (C : Addr), W.xa c = some C → ∃ x, nm.ex[c]? = some x
  cls : ∀ (c : Nat) (x : Str), nm.ex[c]? = some x → ∃ C : Addr, W.xa c = some C ∧ mg x = some (.ref C) ∧ PySem.W.keepIn K (.ref C) = true ∧ PySem.W.subIn K (.ref C) (.type "BaseException") = some true ∧ PySem.W.typeIn K (.ref C) = some (.type "type") ∧ ExcC K C
  own : ∀ (c : Nat) (C : Addr), c ∈ nm.own → W.xa c = some C → ∃ (bmB : List Value) (B newId initId : String), ExcBaseFacts B newId initId bmB ∧ PySem.W.excIn K C bmB newId = true
  sub : ∀ (c c' : Nat) (C C' : Addr), W.xa c = some C → W.xa c' = some C' → PySem.W.exmOne K (.ref C') (.ref C) = some (t.sub c' c) ∧ PySem.W.kitOne K (.ref C') (.ref C) = some (t.sub c' c)
structure Cok (W : Wo) (nm : Nm) (t : Tbl) (k : Nat) (wx : WX) (N : List Str) (sc ws : Scope) (X : Cx) : Prop where
  eK : W.K = X.K
  eN : X.N = N
  nd : N.Nodup
  eS : X.env.scope = sc
  calm : X.calm = true
  room : Room (2 * k + 1) X.A
  tk : Takes X wx
  flen : nm.fn.length = t.fns.length
  fns : ∀ f fn, t.fns[f]? = some fn → FnFact W X k nm t f fn
  gls : ∀ n d, t.glob n = some d → ∃ (x : Str) (u : Value) (v : V), nm.gl[n]? = some x ∧ X.mg x = some u ∧ RelV v u ∧ ∀ G, Rep W G d v
  blt : ∀ x ∈ bltNames, X.mg (Str.ofString x) = none
  fa : ∀ (f : Nat) (a : Addr), W.fa f = some a → f < t.fns.length
  exc : ExF W nm t X.K X.mg
  wr : ∀ x, locB ws x = true → Loc X.env.scope x ∧ (X.fn x = true ∨ X.env.scope.names.lookup x = some .local)
end Z

set_option Elab.async false
set_option linter.all false
set_option maxRecDepth 100000
set_option maxHeartbeats 2000000
set_option autoImplicit false
/-! ZSnd: what is checked is so: expressions. -/
namespace Z
open PySem PySem.Spec PyProof.Rows L2

theorem bind_assoc {α β γ : Type} (r : Res α) (f : α → Sta → Res β) (g : β → Sta → Res γ) : (r.bind f).bind g = r.bind fun a s => (f a s).bind g := by
  cases r <;> rfl
section
variable {W : Wo} {wx : WX} {X : Cx} {P : Prog}
structure EOk (W : Wo) (wx : WX) (X : Cx) (P : Prog) (i : E) (e : Expr) : Prop where
  pe : PE X e (tE W wx (ev P i))
  var : ∀ j, i = .v j → PE X e (tVar j)
  ns : nstar e = true
inductive EOks (W : Wo) (wx : WX) (X : Cx) (P : Prog) : List E → List Expr → Prop where
  | nil : EOks W wx X P [] []
  | cons {i : E} {e : Expr} {is : List E} {es : List Expr} : EOk W wx X P i e → EOks W wx X P is es → EOks W wx X P (i :: is) (e :: es)
theorem EOk.pv {i : E} {e : Expr} (h : EOk W wx X P i e) : PE X e (tV W wx (ev P i)) := pv_of h.pe
theorem Out.refl_ok {α β : Type} {G : Gh} {O : List (Option Addr)} {σ : L2.St} {R : Gh → List (Option Addr) → Gh → List (Option Addr) → Sta → α → β → Prop} {Q : β → Hp → Prop} {s : Sta} {a : α} {b : β} (r : StRep W G s σ O) (h : Out W wx G O σ R Q (.ok a s)) (rr : R G O G O s a b) : Q b G.H :=
  h b G O (.refl G _) r rr
/-- an operand's reading -/
theorem EOk.pr {i : E} {e : Expr} (h : EOk W wx X P i e) : PE X e (tR W wx (rdArg i (ev P i))) := by
  have gen : (∀ s, rdArg i (ev P i) s = (ev P i s).bind fun x s1 => .ok (.val x.2) s1) → PE X e (tR W wx (rdArg i (ev P i))) := fun eq => pe_weak h.pv fun σ H Q q => by
    obtain ⟨G, O, s, e1, r, q⟩ := q
    refine ⟨G, O, s, e1, r, ?_⟩
    rw [eq] at q
    exact Out.bind mono_RA q fun a s1 _ b G1 O1 fr r1 rr h1 => Out.refl_ok r1 h1 rr
  cases i with
  | v j =>
    refine pe_weak (h.var j rfl) fun σ H Q q => ?_
    obtain ⟨G, O, s, rfl, r, q⟩ := q
    have q : Out W wx G O σ (RA W σ) Q (match s.σ[j]? with
      | some (.sh d) => .ok (.val d) s
      | some (.own _) => .ok (.slot j) s
      | _ => .stuck) := q
    cases e : s.σ[j]? with
    | none => rw [e] at q; exact q.elim
    | some x =>
      rw [e] at q
      obtain ⟨v, o, h1, h2, h3⟩ := r.slots j x e
      cases x with
      | no => exact q.elim
      | sh d =>
        obtain ⟨_, y, rfl, ry⟩ := h3
        exact ⟨y, h1, Out.refl_ok (b := y) r q ry⟩
      | own c =>
        obtain ⟨a, _, rfl, _⟩ := h3
        exact ⟨.ref a, h1, Out.refl_ok (b := V.ref a) r q h1⟩
  | _ => exact gen fun s => rfl
theorem star_of {e : Expr} {es : List Expr} {env : Env} (h : nstar e = true) : starEach (e :: es) env = (false, eval e env) :: starEach es env := by
  cases e <;> first
    | rfl
    | cases h
theorem stars_of {is : List E} {es : List Expr} (h : EOks W wx X P is es) (env : Env) : starEach es env = es.map fun e => (false, eval e env) := by
  induction h with
  | nil => rfl
  | cons h1 _ ih => rw [star_of h1.ns, ih]; rfl
theorem noStar {is : List E} {es : List Expr} (h : EOks W wx X P is es) (env : Env) (pos : Pos) : (backTo pos (starEach es env)).any (·.1) = false := by
  rw [stars_of h]
  simp [backTo]
theorem noStarAll {is : List E} {es : List Expr} (h : EOks W wx X P is es) (env : Env) (pos : Pos) : (backTo pos (starEach es env)).all (fun x => !x.1) = true := by
  rw [stars_of h]
  simp [backTo]
/-- the values of a list -/
theorem EOks.pa {is : List E} {es : List Expr} (h : EOks W wx X P is es) : PA X es (tVs W wx (evs P is)) := by
  induction h with
  | nil =>
    refine pa_weak pa_nil fun σ H Q q => ?_
    obtain ⟨G, O, s, rfl, r, q⟩ := q
    exact Out.refl_ok (b := ([] : List V)) r q (by simp [RVs, Reps])
  | cons h1 hs ih =>
    refine pa_weak (pa_cons h1.pv ih (star_of h1.ns)) fun σ H Q q => ?_
    obtain ⟨G, O, s, e, r, q⟩ := q
    refine ⟨G, O, s, e, r, ?_⟩
    simp only [evs] at q
    refine Out.bind mono_RVs q fun a s1 _ x G1 O1 fr r1 rr q1 => ⟨G1, O1, s1, rfl, r1, ?_⟩
    refine Out.bind mono_RVs q1 fun b s2 _ xs G2 O2 fr2 r2 rs q2 => ?_
    refine Out.refl_ok r2 q2 ?_
    simp only [RVs, Reps]
    exact ⟨x, xs, rfl, Rep.keep fr2.keep _ _ rr, rs⟩
theorem arg_keep {σ : L2.St} {G G1 G2 : Gh} {O O1 O2 : List (Option Addr)} {s : Sta} {x : Arg} {v : V} (k : Keep G1 G2) (h : RA W σ G O G1 O1 s x v) : ARep W σ G2 x v := by
  cases x with
  | val d => exact Rep.keep k d v h
  | slot i => exact h
theorem EOks.par {is : List E} {es : List Expr} (h : EOks W wx X P is es) : PA X es (tRs W wx (evrs P is)) := by
  induction h with
  | nil =>
    refine pa_weak pa_nil fun σ H Q q => ?_
    obtain ⟨G, O, s, rfl, r, q⟩ := q
    exact Out.refl_ok (b := ([] : List V)) r q (show AReps W σ G [] [] from rfl)
  | cons h1 hs ih =>
    refine pa_weak (pa_cons h1.pr ih (star_of h1.ns)) fun σ H Q q => ?_
    obtain ⟨G, O, s, e, r, q⟩ := q
    refine ⟨G, O, s, e, r, ?_⟩
    simp only [evrs] at q
    refine Out.bind mono_RAs q fun a s1 _ x G1 O1 fr r1 rr q1 => ⟨G1, O1, s1, rfl, r1, ?_⟩
    refine Out.bind mono_RAs q1 fun b s2 _ xs G2 O2 fr2 r2 rs q2 => ?_
    exact Out.refl_ok r2 q2 ⟨x, xs, rfl, arg_keep (O := O) (O2 := O2) fr2.keep rr, rs⟩
/-! ### operations: one, two operands -/
theorem z_one {i : E} {a e : Expr} {p : Prim} {r : V → Hp → VK → Prop} (h1 : EOk W wx X P i a) (rule : ∀ {ta : TE}, PE X a ta → PE X e (fun σ H Q => ta σ H fun x H1 => r x H1 Q))
    (hr : ∀ (G : Gh) (d : D) (o : Bool) (d' : D) (x : V) (Q : VK), Dom G → RepW W G d x → prim1 p d = some (o, d') → Kont W G Q o d' → r x G.H Q) : PE X e (tE W wx (ev P (.pr p [i]))) := by
  refine pe_weak (rule h1.pr) fun σ H Q q => ?_
  obtain ⟨G, O, s, e, r, q⟩ := q
  refine ⟨G, O, s, e, r, ?_⟩
  simp only [ev, evrs, bind_assoc] at q
  refine Out.bind mono_RO q fun a s1 _ x G1 O1 fr r1 rr q1 => ?_
  have ra : AReps W σ G1 [a] [x] := ⟨x, [], rfl, rr, rfl⟩
  obtain ⟨ds, o, d, hw, hp, k⟩ := prim_end (p := prim p) r1 ra q1
  obtain ⟨d1, rfl⟩ : ∃ d1, ds = [d1] := by
    match ds, hw with
    | [d1], _ => exact ⟨d1, rfl⟩
    | [], hw => obtain ⟨⟩ := (show [x] = [] from hw)
    | _ :: _ :: _, hw => obtain ⟨_, _, e, _, _, _, e2, _⟩ := hw; cases e; cases e2
  obtain ⟨v, e, w⟩ := one_w hw
  cases e
  exact hr G1 d1 o d x Q r1.dom w hp k
theorem z_two {i j : E} {a b e : Expr} {p : Prim} {r : R2} (h1 : EOk W wx X P i a) (h2 : EOk W wx X P j b) (rule : ∀ {ta tb : TE}, PE X a ta → PE X b tb → PE X e (tOp r ta tb))
    (hr : ∀ (G : Gh) (d1 d2 : D) (o : Bool) (d' : D) (x y : V) (Q : VK), Dom G → RepW W G d1 x → RepW W G d2 y → prim2 p d1 d2 = some (o, d') → Kont W G Q o d' → r x y G.H Q) : PE X e (tE W wx (ev P (.pr p [i, j]))) := by
  refine pe_weak (rule h1.pr h2.pr) fun σ H Q q => ?_
  obtain ⟨G, O, s, e, r, q⟩ := q
  refine ⟨G, O, s, e, r, ?_⟩
  simp only [ev, evrs, bind_assoc] at q
  refine Out.bind mono_RO q fun a s1 _ x G1 O1 fr r1 rr q1 => ⟨G1, O1, s1, rfl, r1, ?_⟩
  refine Out.bind mono_RO q1 fun b s2 _ y G2 O2 fr2 r2 rr2 q2 => ?_
  have ra : AReps W σ G2 [a, b] [x, y] := ⟨x, [y], rfl, arg_keep (O := O) (O2 := O2) fr2.keep rr, y, [], rfl, rr2, rfl⟩
  obtain ⟨ds, o, d, hw, hp, k⟩ := prim_end (p := prim p) r2 ra q2
  obtain ⟨d1, d2, rfl⟩ : ∃ d1 d2, ds = [d1, d2] := by
    match ds, hw with
    | [d1, d2], _ => exact ⟨d1, d2, rfl⟩
    | [], hw => obtain ⟨⟩ := (show [x, y] = [] from hw)
    | [_], hw => obtain ⟨_, _, e, _, e2⟩ := hw; cases e; cases e2
    | _ :: _ :: _ :: _, hw => obtain ⟨_, _, e, _, _, _, e2, _, _, _, e3, _⟩ := hw; cases e; cases e2; cases e3
  obtain ⟨v, u, e, w1, w2⟩ := two_w hw
  cases e
  exact hr G2 d1 d2 o d x y Q r2.dom w1 w2 hp k
theorem evrs_len : ∀ {is : List E} {s s1 : Sta} {as : List Arg}, evrs P is s = .ok as s1 → as.length = is.length
  | [], s, s1, as, h => by cases h; rfl
  | i :: is, s, s1, as, h => by
    simp only [evrs] at h
    cases e : rdArg i (ev P i) s with
    | stuck => rw [e] at h; cases h
    | exn x s2 => rw [e] at h; cases h
    | ok a s2 =>
      rw [e] at h
      simp only [Res.bind] at h
      cases e2 : evrs P is s2 with
      | stuck => rw [e2] at h; cases h
      | exn x s3 => rw [e2] at h; cases h
      | ok b s3 =>
        rw [e2] at h
        cases h
        simp only [List.length_cons, evrs_len e2]
theorem areps_len {σ : L2.St} {G : Gh} : ∀ {as : List Arg} {vs : List V}, AReps W σ G as vs → vs.length = as.length
  | [], _, h => by rw [show _ = [] from h]; rfl
  | a :: as, vs, h => by
    obtain ⟨v, r, rfl, _, h2⟩ := h
    simp only [List.length_cons, areps_len h2]
theorem repsw_len {G : Gh} : ∀ {ds : List D} {vs : List V}, RepsW W G ds vs → vs.length = ds.length
  | [], _, h => by rw [show _ = [] from h]; rfl
  | a :: as, vs, h => by
    obtain ⟨v, r, rfl, _, h2⟩ := h
    simp only [List.length_cons, repsw_len h2]
/-- a built-in called -/
theorem z_call {is : List E} {es : List Expr} {e : Expr} {p : Prim} {f : List D → Option (Bool × D)} (h : EOks W wx X P is es) (hf : ∀ ds, ds.length = is.length → prim p ds = f ds) (rule : ∀ {t : TA}, PA X es t → PE X e (tCB (rC W f) t)) : PE X e (tE W wx (ev P (.pr p is))) := by
  refine pe_weak (rule h.par) fun σ H Q q => ?_
  obtain ⟨G, O, s, e, r, q⟩ := q
  refine ⟨G, O, s, e, r, ?_⟩
  simp only [ev] at q
  refine Out.bind mono_RO q fun as s1 he xs G1 O1 fr r1 rr q1 => ?_
  obtain ⟨ds, o, d, hw, hp, k⟩ := prim_end (p := prim p) r1 rr q1
  have hl : ds.length = is.length := by rw [← repsw_len hw, areps_len rr, evrs_len he]
  exact ⟨G1, ds, o, d, rfl, r1.dom, hw, by rw [← hf ds hl]; exact hp, k⟩

/-! ### the operations of the text -/
variable {nm : Nm} {t : Tbl} {k : Nat} {N : List Str} {sc ws : Scope}
theorem Cok.kind (C : Cok W nm t k wx N sc ws X) (x : Str) : X.env.kindOf x = sc.names.lookup x := by
  show X.env.scope.names.lookup x = _
  rw [C.eS]
theorem Cok.gl (C : Cok W nm t k wx N sc ws X) {x : Str} (h : glB sc x = true) : Gl X x := by
  unfold Gl
  rw [C.kind]
  unfold glB at h
  split at h
  · assumption
  · cases h
theorem Cok.vis (C : Cok W nm t k wx N sc ws X) {x : Str} (h : visB sc x = true) : Vis X.env.scope x := by
  unfold Vis
  rw [C.eS]
  unfold visB at h
  split at h
  · exact .inl (by assumption)
  · exact .inr (.inl (by assumption))
  · exact .inr (.inr (by assumption))
  · cases h
theorem Cok.blt1 (C : Cok W nm t k wx N sc ws X) {n : String} {f : Expr} (h : isBlt sc n f = true) (hn : n ∈ bltNames) : ∃ p, f = .Name (Str.ofString n) p ∧ Gl X (Str.ofString n) ∧ X.mg (Str.ofString n) = none := by
  cases f with
  | Name x p =>
    simp only [isBlt, Bool.and_eq_true, decide_eq_true_eq] at h
    obtain ⟨rfl, h2⟩ := h
    exact ⟨p, rfl, C.gl h2, C.blt n hn⟩
  | _ => cases h
theorem plainIx_of {b : Expr} (h : plainIxB b = true) : PlainIx b := by
  cases b <;> first
    | (intro _ _; rfl)
    | cases h
theorem units64 {j : Nat} {A : Around} (r : Room j A) : A.units + 65 < cLine := by have := r.un; omega
theorem truth_he {a : Expr} {env : Env} (h : plainT a = true) : ∀ whole, isTrue a env whole = (do let v ← whole; standAt a.pos; holding [v] (truthy v)) := by
  cases a with
  | UnaryOp op x p => cases op <;> first | (intro _; rfl) | cases h
  | BoolOp _ _ _ => cases h
  | Compare _ _ _ _ => cases h
  | IfExp _ _ _ _ => cases h
  | _ => intro _; rfl
theorem z_blt1 (C : Cok W nm t k wx N sc ws X) {p : Prim} {f : D → Option (Bool × D)} {n : String} {i : E} {g a : Expr} {pos : Pos} {v : Value} (hn : n ∈ bltNames) (h : EOks W wx X P [i] [a]) (hb : isBlt sc n g = true) (hv : bootBuiltins (Str.ofString n) = some v)
    (hf : ∀ d, prim1 p d = f d) (hc : CallR X v (rC W (p1 f))) (hk : (∃ id, v = .builtin id) ∨ ∃ T, v = .type T) (hdn : Str.ofString n ≠ ("__name__" : Str) := by decide +kernel) (hdb : (Str.ofString n == ("__debug__" : Str)) = false := by decide +kernel) :
    PE X (.Call g [a] [] pos) (tE W wx (ev P (.pr p [i]))) := by
  obtain ⟨q, rfl, hg, hm⟩ := C.blt1 hb hn
  refine z_call (f := p1 f) h (fun ds hl => ?_) fun {t} ha => ?_
  · match ds, hl with
    | [x], _ => exact hf x
  · cases h with
    | cons h1 h2 =>
      rcases hk with ⟨id, rfl⟩ | ⟨T, rfl⟩
      · exact pe_callB hc hg hm hv ha hdn hdb (star_of h1.ns) (noStar h2 _ _)
      · exact pe_callTy hc hg hm hv ha hdn hdb (star_of h1.ns) (noStar h2 _ _)
theorem z_blt2 (C : Cok W nm t k wx N sc ws X) {p : Prim} {f : D → D → Option (Bool × D)} {n : String} {i j : E} {g a b : Expr} {pos : Pos} {v : Value} (hn : n ∈ bltNames) (h : EOks W wx X P [i, j] [a, b]) (hb : isBlt sc n g = true) (hv : bootBuiltins (Str.ofString n) = some v)
    (hf : ∀ d e, prim2 p d e = f d e) (hc : CallR X v (rC W (p2 f))) (hk : (∃ id, v = .builtin id) ∨ ∃ T, v = .type T) (hdn : Str.ofString n ≠ ("__name__" : Str) := by decide +kernel) (hdb : (Str.ofString n == ("__debug__" : Str)) = false := by decide +kernel) :
    PE X (.Call g [a, b] [] pos) (tE W wx (ev P (.pr p [i, j]))) := by
  obtain ⟨q, rfl, hg, hm⟩ := C.blt1 hb hn
  refine z_call (f := p2 f) h (fun ds hl => ?_) fun {t} ha => ?_
  · match ds, hl with
    | [x, y], _ => exact hf x y
  · cases h with
    | cons h1 h2 =>
      rcases hk with ⟨id, rfl⟩ | ⟨T, rfl⟩
      · exact pe_callB hc hg hm hv ha hdn hdb (star_of h1.ns) (noStar h2 _ _)
      · exact pe_callTy hc hg hm hv ha hdn hdb (star_of h1.ns) (noStar h2 _ _)
theorem EOks.one {is : List E} {a : Expr} (h : EOks W wx X P is [a]) : ∃ i, is = [i] ∧ EOk W wx X P i a := by
  cases h with
  | cons h1 h2 => cases h2; exact ⟨_, rfl, h1⟩
theorem EOks.two {is : List E} {a b : Expr} (h : EOks W wx X P is [a, b]) : ∃ i j, is = [i, j] ∧ EOk W wx X P i a ∧ EOk W wx X P j b := by
  cases h with
  | cons h1 h2 =>
    obtain ⟨j, rfl, h3⟩ := h2.one
    exact ⟨_, _, rfl, h1, h3⟩
theorem EOks.three {is : List E} {a b c : Expr} (h : EOks W wx X P is [a, b, c]) : ∃ i j l, is = [i, j, l] ∧ EOk W wx X P i a ∧ EOk W wx X P j b ∧ EOk W wx X P l c := by
  cases h with
  | cons h1 h2 =>
    obtain ⟨j, l, rfl, h3, h4⟩ := h2.two
    exact ⟨_, _, _, rfl, h1, h3, h4⟩
theorem un_negZ : UnR X (unaryOp .USub) (fun x H Q => ∃ (G : Gh) (d : D) (o : Bool) (d' : D), G.H = H ∧ Dom G ∧ RepW W G d x ∧ negD d = some (o, d') ∧ Kont W G Q o d') := by
  intro pins s σ H x v Q I rx q
  obtain ⟨G, d, o, d', rfl, dm, h1, h2, k⟩ := q
  cases d with
  | int i =>
    cases h2
    cases repw_int h1
    exact un_neg pins s σ _ _ v Q I rx ⟨i, rfl, k.same rep_int⟩
  | _ => cases h2
def rNoneZ (W : Wo) (n : Bool) : R2 := fun x y H Q => y = .non ∧ ∃ (G : Gh) (d : D) (o : Bool) (d' : D), G.H = H ∧ Dom G ∧ RepW W G d x ∧ noneD n d = some (o, d') ∧ Kont W G Q o d'
/-- is None, is not None -/
theorem op_isNoneZ : OpR X (compareOp .Is) (rNoneZ W false) := by
  intro pins s σ H x y v u Q I rx ry q
  obtain ⟨ey, G, d, o, d', rfl, dm, h1, h2, k⟩ := q
  refine op_isN pins s σ _ x y v u Q I rx ry ⟨ey, ?_⟩
  have : decide (x = .non) = (match d with | .non => true | _ => false) := by
    cases d with
    | non => cases repw_non h1; rfl
    | bl b => cases repw_bl h1; rfl
    | int b => cases repw_int h1; rfl
    | str b => cases (repw_str h1).1; rfl
    | tup b => obtain ⟨a, vs, rfl, _⟩ := repw_tup h1; rfl
    | lst b => obtain ⟨a, vs, rfl, _⟩ := h1; rfl
    | dct b c => obtain ⟨a, vs, rfl, _⟩ := h1; rfl
    | ref b => simp only [RepW, Rep] at h1; obtain ⟨a, rfl, _⟩ := h1; rfl
    | fn b => simp only [RepW, Rep] at h1; obtain ⟨a, rfl, _⟩ := h1; rfl
    | scr b => simp only [RepW, Rep] at h1; obtain ⟨a, rfl, _⟩ := h1; rfl
  rw [this]
  cases d <;> (cases h2; exact k.same rep_bl)
theorem op_notNoneZ : OpR X (compareOp .IsNot) (rNoneZ W true) := by
  intro pins s σ H x y v u Q I rx ry q
  obtain ⟨ey, G, d, o, d', rfl, dm, h1, h2, k⟩ := q
  refine op_notN pins s σ _ x y v u Q I rx ry ⟨ey, ?_⟩
  have : (!decide (x = .non)) = (match d with | .non => false | _ => true) := by
    cases d with
    | non => cases repw_non h1; rfl
    | bl b => cases repw_bl h1; rfl
    | int b => cases repw_int h1; rfl
    | str b => cases (repw_str h1).1; rfl
    | tup b => obtain ⟨a, vs, rfl, _⟩ := repw_tup h1; rfl
    | lst b => obtain ⟨a, vs, rfl, _⟩ := h1; rfl
    | dct b c => obtain ⟨a, vs, rfl, _⟩ := h1; rfl
    | ref b => simp only [RepW, Rep] at h1; obtain ⟨a, rfl, _⟩ := h1; rfl
    | fn b => simp only [RepW, Rep] at h1; obtain ⟨a, rfl, _⟩ := h1; rfl
    | scr b => simp only [RepW, Rep] at h1; obtain ⟨a, rfl, _⟩ := h1; rfl
  rw [this]
  cases d <;> (cases h2; exact k.same rep_bl)

def RIo (G : Gh) (O : List (Option Addr)) (G' : Gh) (O' : List (Option Addr)) (_ : Sta) (x : Option Int) (b : Option Int) : Prop := x = b
theorem mono_RIo : Mono RIo := fun _ _ _ _ _ _ _ _ _ _ h => h
structure OOk (W : Wo) (wx : WX) (X : Cx) (P : Prog) (i : Option E) (e : Option Expr) : Prop where
  po : PO X e (tZ W wx (fun _ => RIo) (evo P i))
theorem po_weak {e : Option Expr} {t t' : TO} (h : PO X e t) (w : ∀ σ H Q, t' σ H Q → t σ H Q) : PO X e t' := ⟨fun pins s σ H Q I q => h.run pins s σ H Q I (w σ H Q q)⟩
theorem oOk_none : OOk W wx X P none none := ⟨po_weak po_none fun σ H Q q => by
  obtain ⟨G, O, s, rfl, r, q⟩ := q
  exact Out.refl_ok (b := (none : Option Int)) r q rfl⟩
theorem oOk_some {i : E} {e : Expr} (h : PE X e (tE W wx (ev P i))) : OOk W wx X P (some i) (some e) := ⟨po_weak (po_some (pv_of h)) fun σ H Q q => by
  obtain ⟨G, O, s, e, r, q⟩ := q
  refine ⟨G, O, s, e, r, ?_⟩
  simp only [evo] at q
  refine Out.bind mono_RIo q fun a s1 _ x G1 O1 fr r1 rr q1 => ?_
  obtain ⟨o, d⟩ := a
  cases d with
  | int j =>
    have : x = .int j := repw_int (show Rep W G1 (.int j) x from rr).w
    exact ⟨j, this, Out.refl_ok (b := some j) r1 q1 rfl⟩
  | _ => exact q1.elim⟩
theorem z_sl {i : E} {lo hi : Option E} {a : Expr} {l h : Option Expr} {pos p2 : Pos} (C : Cok W nm t k wx N sc ws X) (h1 : EOk W wx X P i a) (hl : OOk W wx X P lo l) (hh : OOk W wx X P hi h) :
    PE X (.Subscript a (.Slice l h none p2) pos) (tE W wx (ev P (.sl i lo hi))) := by
  refine pe_weak (pe_slice (sl_Z (W := W) C.eK) h1.pr hl.po hh.po) fun σ H Q q => ?_
  obtain ⟨G, O, s, e, r, q⟩ := q
  refine ⟨G, O, s, e, r, ?_⟩
  simp only [ev] at q
  refine Out.bind mono_RO q fun a s1 _ x G1 O1 fr r1 rr q1 => ⟨G1, O1, s1, rfl, r1, ?_⟩
  refine Out.bind mono_RO q1 fun l s2 _ l' G2 O2 fr2 r2 el q2 => ⟨G2, O2, s2, rfl, r2, ?_⟩
  refine Out.bind mono_RO q2 fun h s3 _ h' G3 O3 fr3 r3 eh q3 => ?_
  have el : l = l' := el
  have eh : h = h' := eh
  subst el eh
  have ra : ARep W σ G3 a x := arg_keep (O := O) (O2 := O) (s := s1) (O1 := O1) (G := G) ((fr2.trans fr3).keep) rr
  cases e : a.get s3 with
  | none => rw [e] at q3; exact q3.elim
  | some d =>
    rw [e] at q3
    cases e2 : slD d l h with
    | none => simp only [e2] at q3; exact q3.elim
    | some p =>
      simp only [e2] at q3
      exact ⟨G3, d, p.1, p.2, rfl, r3.dom, arg_w (G0 := G) (O0 := O) r3 ra e, e2, Kont.of r3 q3⟩
theorem boot_ty (t : Ty) : bootBuiltins (Str.ofString (tyName t)) = some (.type (tyName t)) := by
  cases t <;> decide +kernel
theorem ty_in (t : Ty) : tyName t ∈ bltNames := by cases t <;> decide
theorem z_isi (C : Cok W nm t k wx N sc ws X) {i : E} {a g b : Expr} {pos : Pos} {ty : Ty} (h : EOk W wx X P i a) (hg : isBlt sc "isinstance" g = true) (hb : isBlt sc (tyName ty) b = true) : PE X (.Call g [a, b] [] pos) (tE W wx (ev P (.pr (.isi ty) [i]))) := by
  obtain ⟨q, rfl, g1, g2⟩ := C.blt1 hg (by decide)
  obtain ⟨q2, rfl, b1, b2⟩ := C.blt1 hb (ty_in ty)
  have pb : PE X (.Name (Str.ofString (tyName ty)) q2) (tC (.ty (tyName ty))) := pe_bltn b1 b2 (boot_ty ty) rfl (by cases ty <;> decide +kernel) (by cases ty <;> decide +kernel)
  refine pe_weak (pe_callB (call_isiZ (W := W) C.eK ty) g1 g2 PyProof.Rows.boot_isinstance (pa_cons h.pr (pa_cons pb pa_nil) (star_of h.ns)) (by decide +kernel) (by decide +kernel) (star_of h.ns) rfl) fun σ H Q q => ?_
  obtain ⟨G, O, s, e, r, q⟩ := q
  refine ⟨G, O, s, e, r, ?_⟩
  simp only [ev, evrs, bind_assoc] at q
  refine Out.bind mono_RO q fun a s1 _ x G1 O1 fr r1 rr q1 => ?_
  have ra : AReps W σ G1 [a] [x] := ⟨x, [], rfl, rr, rfl⟩
  obtain ⟨ds, o, d, hw, hp, k⟩ := prim_end (p := prim (.isi ty)) r1 ra q1
  refine ⟨x, rfl, G1, ds, o, d, rfl, r1.dom, hw, ?_, k⟩
  match ds, hw, hp with
  | [d1], _, hp => exact hp
  | [], hw, _ => cases repsw_len hw
  | _ :: _ :: _, hw, _ => have := repsw_len hw; simp at this
/-- the operations -/
theorem z_prim (C : Cok W nm t k wx N sc ws X) {p : Prim} {e : Expr} {es : List Expr} {is : List E} (hs : shape sc p e = some es) (h : EOks W wx X P is es) : PE X e (tE W wx (ev P (.pr p is))) := by
  have u65 := units64 C.room
  cases p with
  | bin op =>
    cases e <;> first | (simp only [shape] at hs; cases hs; done) | skip
    rename_i a o b pos
    simp only [shape] at hs
    split at hs
    · rename_i eo
      cases hs
      subst eo
      obtain ⟨i, j, rfl, h1, h2⟩ := h.two
      exact z_two h1 h2 (fun {ta tb} ha hb => pe_op (op_bin C.eK o) ha hb) fun G d1 d2 o' d' x y Q dm w1 w2 hp k => ⟨G, d1, d2, o', d', rfl, dm, w1, w2, hp, k⟩
    · cases hs
  | cmp op =>
    simp only [shape] at hs
    split at hs
    · rename_i a o b pos
      split at hs
      · rename_i eo
        cases hs
        obtain ⟨rfl, eb⟩ := eo
        obtain ⟨i, j, rfl, h1, h2⟩ := h.two
        exact z_two h1 h2 (fun {ta tb} ha hb => pe_cmpR (op_cmp u65 C.eK o) ha hb eb) fun G d1 d2 o' d' x y Q dm w1 w2 hp k => ⟨G, d1, d2, o', d', rfl, dm, w1, w2, hp, k⟩
      · cases hs
    · cases hs
  | neg =>
    simp only [shape] at hs
    split at hs
    · cases hs
      obtain ⟨i, rfl, h1⟩ := h.one
      exact z_one h1 (fun {ta} ha => pe_un un_negZ ha) fun G d o' d' x Q dm w1 hp k => ⟨G, d, o', d', rfl, dm, w1, hp, k⟩
    · cases hs
  | ix =>
    simp only [shape] at hs
    split at hs
    · split at hs
      · rename_i pb
        cases hs
        obtain ⟨i, j, rfl, h1, h2⟩ := h.two
        exact z_two h1 h2 (fun {ta tb} ha hb => pe_ix (ix_Z (by omega) C.eK) ha hb (plainIx_of pb)) fun G d1 d2 o' d' x y Q dm w1 w2 hp k => ⟨G, d1, d2, o', d', rfl, dm, w1, w2, hp, k⟩
      · cases hs
    · cases hs
  | rev =>
    simp only [shape] at hs
    split at hs
    · cases hs
      obtain ⟨i, rfl, h1⟩ := h.one
      refine z_one h1 (fun {ta} ha => pe_revL ha) fun G d o' d' x Q dm w1 hp k => ?_
      cases d with
      | lst ds =>
        cases hp
        obtain ⟨a, vs, rfl, s1, r1⟩ := w1
        exact ⟨a, vs, rfl, .inl (.inl s1), fun p np => k.lst dm r1.reverse p np⟩
      | _ => cases hp
    · cases hs
  | divmodOf =>
    simp only [shape] at hs
    split at hs
    · split at hs
      · rename_i hb
        cases hs
        obtain ⟨i, j, rfl, h1, h2⟩ := h.two
        exact z_blt2 C (by decide) h hb PyProof.Rows.boot_divmod (fun _ _ => rfl) call_divmodZ (.inl ⟨_, rfl⟩)
      · cases hs
    · cases hs
  | len =>
    simp only [shape] at hs
    split at hs
    · split at hs
      · rename_i hb
        cases hs
        obtain ⟨i, rfl, h1⟩ := h.one
        exact z_blt1 C (by decide) h hb PySem.boot_len (fun _ => rfl) (call_lenZ C.eK) (.inl ⟨_, rfl⟩)
      · cases hs
    · cases hs
  | abs =>
    simp only [shape] at hs
    split at hs
    · split at hs
      · rename_i hb
        cases hs
        obtain ⟨i, rfl, h1⟩ := h.one
        exact z_blt1 C (by decide) h hb (by decide +kernel) (fun _ => rfl) call_absZ (.inl ⟨_, rfl⟩)
      · cases hs
    · cases hs
  | tupleOf =>
    simp only [shape] at hs
    split at hs
    · split at hs
      · rename_i hb
        cases hs
        obtain ⟨i, rfl, h1⟩ := h.one
        exact z_blt1 C (by decide) h hb PyProof.Rows.boot_tuple (fun _ => rfl) (call_tupleZ C.eK) (.inr ⟨_, rfl⟩)
      · cases hs
    · cases hs
  | listOf =>
    simp only [shape] at hs
    split at hs
    · split at hs
      · rename_i hb
        cases hs
        obtain ⟨i, rfl, h1⟩ := h.one
        exact z_blt1 C (by decide) h hb PyProof.Rows.boot_list (fun _ => rfl) (call_listZ C.eK) (.inr ⟨_, rfl⟩)
      · cases hs
    · cases hs
  | intOf =>
    simp only [shape] at hs
    split at hs
    · split at hs
      · rename_i hb
        cases hs
        obtain ⟨i, rfl, h1⟩ := h.one
        exact z_blt1 C (by decide) h hb PyProof.Rows.boot_int (fun _ => rfl) call_intZ (.inr ⟨_, rfl⟩)
      · cases hs
    · cases hs
  | strOf =>
    simp only [shape] at hs
    split at hs
    · split at hs
      · rename_i hb
        cases hs
        obtain ⟨i, rfl, h1⟩ := h.one
        exact z_blt1 C (by decide) h hb PyProof.Rows.boot_str (fun _ => rfl) call_strZ (.inr ⟨_, rfl⟩)
      · cases hs
    · cases hs
  | ordOf =>
    simp only [shape] at hs
    split at hs
    · split at hs
      · rename_i hb
        cases hs
        obtain ⟨i, rfl, h1⟩ := h.one
        exact z_blt1 C (by decide) h hb PyProof.Rows.boot_ord (fun _ => rfl) call_ordZ (.inl ⟨_, rfl⟩)
      · cases hs
    · cases hs
  | allOf =>
    simp only [shape] at hs
    split at hs
    · split at hs
      · rename_i hb
        cases hs
        obtain ⟨i, rfl, h1⟩ := h.one
        exact z_blt1 C (by decide) h hb (by decide +kernel) (fun _ => rfl) (call_allZ C.calm) (.inl ⟨_, rfl⟩)
      · cases hs
    · cases hs
  | anyOf =>
    simp only [shape] at hs
    split at hs
    · split at hs
      · rename_i hb
        cases hs
        obtain ⟨i, rfl, h1⟩ := h.one
        exact z_blt1 C (by decide) h hb (by decide +kernel) (fun _ => rfl) (call_anyZ C.calm) (.inl ⟨_, rfl⟩)
      · cases hs
    · cases hs
  | sumOf =>
    simp only [shape] at hs
    split at hs
    · split at hs
      · rename_i hb
        cases hs
        obtain ⟨i, rfl, h1⟩ := h.one
        exact z_blt1 C (by decide) h hb PyProof.Rows.boot_sum (fun _ => rfl) (call_sumZ C.calm) (.inl ⟨_, rfl⟩)
      · cases hs
    · cases hs
  | isi ty =>
    simp only [shape] at hs
    split at hs
    · split at hs
      · rename_i hb
        cases hs
        obtain ⟨i, rfl, h1⟩ := h.one
        exact z_isi C h1 hb.1 hb.2
      · cases hs
    · cases hs
  | isNone n =>
    simp only [shape] at hs
    split at hs
    · cases n with
      | true =>
        simp only [if_true] at hs
        split at hs
        · rename_i hb
          cases hs
          obtain ⟨i, rfl, h1⟩ := h.one
          subst hb
          exact z_one (r := fun x H Q => rNoneZ W true x .non H Q) h1 (fun {ta} ha => (pe_cmpR (tb := tC .non) (op_notNoneZ (W := W)) ha pe_non (nomark _))) fun G d o' d' x Q dm w1 hp k => ⟨rfl, G, d, o', d', rfl, dm, w1, hp, k⟩
        · cases hs
      | false =>
        simp only [Bool.false_eq_true, if_false] at hs
        split at hs
        · rename_i hb
          cases hs
          obtain ⟨i, rfl, h1⟩ := h.one
          subst hb
          exact z_one (r := fun x H Q => rNoneZ W false x .non H Q) h1 (fun {ta} ha => (pe_cmpR (tb := tC .non) (op_isNoneZ (W := W)) ha pe_non (nomark _))) fun G d o' d' x Q dm w1 hp k => ⟨rfl, G, d, o', d', rfl, dm, w1, hp, k⟩
        · cases hs
    · cases hs
  | sortedOf => cases hs
end
end Z

set_option Elab.async false
set_option linter.all false
set_option maxRecDepth 100000
set_option maxHeartbeats 2000000
set_option autoImplicit false
/-! ZSnd2: names, displays, calls. -/
namespace Z
open PySem PySem.Spec PyProof.Rows L2
section
variable {W : Wo} {G G' : Gh} {s : Sta} {σ : L2.St} {O : List (Option Addr)}
theorem own_in (r : StRep W G s σ O) {i : Nat} {c : Cell} (h : s.σ[i]? = some (.own c)) : ∃ a, O[i]? = some (some a) ∧ σ[i]? = some (some (.ref a)) ∧ CRep W G c a ∧ ¬ G.F a ∧ a ∈ ow O ∧ a ∉ G.M := by
  obtain ⟨v, o, h1, h2, h3⟩ := r.slots i _ h
  obtain ⟨a, rfl, rfl, h4, h5⟩ := h3
  have hm : a ∈ ow O := List.mem_filterMap.mpr ⟨some a, List.mem_of_getElem? h2, rfl⟩
  exact ⟨a, h2, h1, h4, h5, hm, fun z => (List.nodup_append.mp r.nd).2.2 a hm a z rfl⟩
theorem ow_in (r : StRep W G s σ O) {a : Addr} (h : a ∈ ow O) : ∃ (i : Nat) (c : Cell), s.σ[i]? = some (.own c) ∧ O[i]? = some (some a) ∧ CRep W G c a ∧ ¬ G.F a := by
  obtain ⟨x, hx, ex⟩ := List.mem_filterMap.mp h
  obtain ⟨i, hi, hix⟩ := List.mem_iff_getElem.mp hx
  have ex : x = some a := ex
  subst ex
  have hi' : i < s.σ.length := by rw [← r.lenO]; exact hi
  obtain ⟨v', o', e1, e2, e3⟩ := r.slots i _ (List.getElem?_eq_getElem hi')
  rw [List.getElem?_eq_getElem hi, hix] at e2
  cases e2
  cases q : s.σ[i] with
  | no => rw [q] at e3; cases e3
  | sh y => rw [q] at e3; cases e3.1
  | own c2 =>
    rw [q] at e3
    obtain ⟨b, f1, f2, f3, f4⟩ := e3
    cases f1
    exact ⟨i, c2, by rw [List.getElem?_eq_getElem hi', q], by rw [List.getElem?_eq_getElem hi, hix], f3, f4⟩
theorem mem_M (r : StRep W G s σ O) {a : Addr} (h : a ∈ G.M) : ∃ (n : Nat) (c : Cell), s.S[n]? = some c ∧ G.M[n]? = some a ∧ CRep W G c a ∧ ¬ G.F a := by
  obtain ⟨n, hn, hna⟩ := List.mem_iff_getElem.mp h
  have hn' : n < s.S.length := by rw [← r.lenM]; exact hn
  obtain ⟨b, f1, f2, f3⟩ := r.cells n _ (List.getElem?_eq_getElem hn')
  rw [List.getElem?_eq_getElem hn, hna] at f1
  cases f1
  exact ⟨n, _, List.getElem?_eq_getElem hn', by rw [List.getElem?_eq_getElem hn, hna], f2, f3⟩
theorem StRep.cs (r : StRep W G s σ O) : CsRep W G s.S := ⟨r.lenM, r.cells, (List.nodup_append.mp r.nd).2.1, r.dom⟩
/-- a name's own object is shown -/
theorem ow_set {O : List (Option Addr)} {i : Nat} {a b : Addr} (h : b ∈ ow (O.set i none)) : b ∈ ow O := by
  obtain ⟨x, hx, ex⟩ := List.mem_filterMap.mp h
  rcases List.mem_or_eq_of_mem_set hx with hx | hx
  · exact List.mem_filterMap.mpr ⟨x, hx, ex⟩
  · subst hx; cases ex
theorem ow_nodup_set : ∀ {O : List (Option Addr)} (i : Nat), (ow O).Nodup → (ow (O.set i none)).Nodup
  | [], _, h => h
  | o :: O, 0, h => by
    cases o with
    | none => exact h
    | some a =>
      have h : (a :: ow O).Nodup := h
      exact (List.nodup_cons.mp h).2
  | o :: O, i + 1, h => by
    cases o with
    | none => exact ow_nodup_set (O := O) i h
    | some a =>
      have h : (a :: ow O).Nodup := h
      obtain ⟨h1, h2⟩ := List.nodup_cons.mp h
      show (a :: ow (O.set i none)).Nodup
      exact List.nodup_cons.mpr ⟨fun z => h1 (ow_set (a := a) z), ow_nodup_set i h2⟩
theorem ow_uniq : ∀ {O : List (Option Addr)} {i j : Nat} {a : Addr}, (ow O).Nodup → O[i]? = some (some a) → O[j]? = some (some a) → i = j
  | [], _, _, _, _, h, _ => by simp at h
  | o :: O, 0, 0, a, _, _, _ => rfl
  | o :: O, 0, j + 1, a, hn, h1, h2 => by
    simp at h1 h2
    subst h1
    have hn : (a :: ow O).Nodup := hn
    exact absurd (List.mem_filterMap (f := id).mpr ⟨some a, List.mem_of_getElem? h2, rfl⟩ : a ∈ ow O) (List.nodup_cons.mp hn).1
  | o :: O, i + 1, 0, a, hn, h1, h2 => by
    simp at h1 h2
    subst h2
    have hn : (a :: ow O).Nodup := hn
    exact absurd (List.mem_filterMap (f := id).mpr ⟨some a, List.mem_of_getElem? h1, rfl⟩ : a ∈ ow O) (List.nodup_cons.mp hn).1
  | o :: O, i + 1, j + 1, a, hn, h1, h2 => by
    have hn' : (ow O).Nodup := by
      cases o with
      | none => exact hn
      | some b => exact (List.nodup_cons.mp (show (b :: ow O).Nodup from hn)).2
    exact congrArg (· + 1) (ow_uniq hn' (by simpa using h1) (by simpa using h2))
theorem view_rep {c : Cell} {a : Addr} {d : D} (h : CRep W G c a) (f : G.F a) (e : c.view = some d) : Rep W G d (.ref a) := by
  cases c with
  | L ds =>
    cases e
    obtain ⟨vs, q, r⟩ := h
    simp only [Rep]
    exact ⟨a, vs, rfl, f, q, r⟩
  | M ks us =>
    cases e
    obtain ⟨kvs, q, q1, r⟩ := h
    simp only [Rep]
    exact ⟨a, kvs, rfl, f, q, q1, r⟩
  | I c fs => cases e
theorem show_slot (r : StRep W G s σ O) {i : Nat} {c : Cell} {d : D} (h : s.σ[i]? = some (.own c)) (e : c.view = some d) :
    ∃ (G2 : Gh) (a : Addr), G2.H = G.H ∧ σ[i]? = some (some (.ref a)) ∧ Frm G (ow O) G2 (ow (O.set i none)) ∧ StRep W G2 { s with σ := s.σ.set i (.sh d) } σ (O.set i none) ∧ Rep W G2 d (.ref a) := by
  obtain ⟨a, h1, h2, h3, h4, h5, h6⟩ := own_in r h
  let G2 : Gh := ⟨G.H, fun b => G.F b ∨ b = a, G.M⟩
  have k : Keep G G2 := ⟨fun _ _ e _ => e, fun b hb => ⟨.inl hb, rfl⟩, fun _ _ e => e⟩
  obtain ⟨oa, ha, _⟩ := h3.there
  have rp : Rep W G2 d (.ref a) := view_rep (h3.keep k rfl) (.inr rfl) e
  have nO : (ow O).Nodup := (List.nodup_append.mp r.nd).1
  have hi : i < s.σ.length := (List.getElem?_eq_some_iff.mp h).1
  refine ⟨G2, a, rfl, h2, ⟨k, fun _ _ e _ _ => e, fun b hb => ?_, fun b hb => .inl (ow_set (a := a) hb), fun b hb => .inl hb, fun b x e => ⟨x, e⟩⟩, ⟨?_, ?_, fun j x hx => ?_, r.lenM, fun n c' hc => ?_, ?_, fun b hb => ?_⟩, rp⟩
  · rcases hb with hb | rfl
    · exact .inl hb
    · exact .inr (.inl h5)
  · simpa using r.len
  · simpa using r.lenO
  · by_cases hj : j = i
    · subst hj
      have hx : (s.σ.set j (.sh d))[j]? = some x := hx
      rw [List.getElem?_set_self hi] at hx
      cases hx
      refine ⟨some (.ref a), none, h2, ?_, rfl, .ref a, rfl, rp⟩
      rw [List.getElem?_set_self (by rw [r.lenO]; exact hi)]
    · have hx : (s.σ.set i (.sh d))[j]? = some x := hx
      rw [List.getElem?_set_ne (Ne.symm hj)] at hx
      obtain ⟨v, o, e1, e2, e3⟩ := r.slots j x hx
      refine ⟨v, o, e1, by rw [List.getElem?_set_ne (Ne.symm hj)]; exact e2, ?_⟩
      cases x with
      | no => exact e3
      | sh d' => obtain ⟨q, y, q1, q2⟩ := e3; exact ⟨q, y, q1, Rep.keep k d' y q2⟩
      | own c' =>
        obtain ⟨b, q1, q2, q3, q4⟩ := e3
        refine ⟨b, q1, q2, q3.keep k rfl, fun z => ?_⟩
        rcases z with z | z
        · exact q4 z
        · subst z
          rw [q1] at e2
          exact hj (ow_uniq nO e2 h1)
  · obtain ⟨b, q1, q2, q3⟩ := r.cells n c' hc
    refine ⟨b, q1, q2.keep k rfl, fun z => ?_⟩
    rcases z with z | z
    · exact q3 z
    · subst z
      exact h6 (List.mem_of_getElem? q1)
  · obtain ⟨n1, n2, n3⟩ := List.nodup_append.mp r.nd
    exact List.nodup_append.mpr ⟨ow_nodup_set i n1, n2, fun x hx y hy => n3 x (ow_set (a := a) hx) y hy⟩
  · rcases hb with hb | rfl
    · exact r.dom b hb
    · exact ⟨oa, ha⟩
theorem ro_val {G G' : Gh} {O O' : List (Option Addr)} {s : Sta} {d : D} {v : V} (h : Rep W G' d v) : RO W G O G' O' s (false, d) v := by
  unfold RO; rw [if_neg Bool.false_ne_true]; exact h
/-- behind a call -/
theorem StRep.call {S' : List Cell} (r : StRep W G s σ O) (f : FrF G G') (c : CsRep W G' S') : StRep W G' ⟨s.σ, S'⟩ σ O ∧ Frm G (ow O) G' (ow O) := by
  have hM : ∀ a, a ∈ ow O → a ∉ G.M ∧ ∃ o, G.H a = some o := fun a ha => by
    obtain ⟨i, c, h1, h2, h3, h4⟩ := ow_in r ha
    obtain ⟨a', q1, _, _, _, _, q6⟩ := own_in r h1
    rw [h2] at q1
    cases q1
    obtain ⟨o, ho, _⟩ := h3.there
    exact ⟨q6, o, ho⟩
  have nF : ∀ a, a ∈ ow O → ¬ G.F a → ¬ G'.F a := fun a ha n z => by
    rcases f.fz a z with z | z | z
    · exact n z
    · cases z
    · obtain ⟨_, o, ho⟩ := hM a ha
      rw [ho] at z; cases z
  refine ⟨⟨r.len, r.lenO, fun i x hx => ?_, c.1, c.2.1, ?_, c.2.2.2⟩, f.keep, fun a x e h1 h2 => f.rest a x e (by simp) h2, fun a h => ?_, fun a h => .inl h, fun a h => ?_, f.dm⟩
  · obtain ⟨v, o, e1, e2, e3⟩ := r.slots i x hx
    refine ⟨v, o, e1, e2, ?_⟩
    cases x with
    | no => exact e3
    | sh d => obtain ⟨q, y, q1, q2⟩ := e3; exact ⟨q, y, q1, Rep.keep f.keep d y q2⟩
    | own c' =>
      obtain ⟨b, q1, q2, q3, q4⟩ := e3
      have hb : b ∈ ow O := List.mem_filterMap.mpr ⟨some b, by rw [← q1]; exact List.mem_of_getElem? e2, rfl⟩
      obtain ⟨m1, ob, m2⟩ := hM b hb
      exact ⟨b, q1, q2, q3.keep f.keep ((f.rest b ob m2 (by simp) m1).trans m2.symm), nF b hb q4⟩
  · refine List.nodup_append.mpr ⟨(List.nodup_append.mp r.nd).1, c.2.2.1, fun x hx y hy e => ?_⟩
    subst e
    obtain ⟨m1, ob, m2⟩ := hM x hx
    rcases f.mm x hy with z | z | z
    · exact m1 z
    · cases z
    · rw [m2] at z; cases z
  · rcases f.fz a h with z | z | z
    · exact .inl z
    · cases z
    · exact .inr (.inr z)
  · rcases f.mm a h with z | z | z
    · exact .inl z
    · cases z
    · exact .inr (.inr z)
theorem RO.call {x : Bool × D} {v : V} {S' : List Cell} {s' : Sta} (r : StRep W G s σ O) (h : RO W G [] G' [] ⟨[], S'⟩ x v) : RO W G O G' O s' x v := by
  unfold RO at h ⊢
  split
  · rename_i e
    rw [if_pos e] at h
    obtain ⟨c, a, h1, h2, h3, h4, h5, h6, h7⟩ := h
    have h7 : G.H a = none := h7.elim (fun z => by cases z) id
    refine ⟨c, a, h1, h2, h3, h4, fun z => ?_, h6, .inr h7⟩
    obtain ⟨i, c, _, _, q, _⟩ := ow_in r z
    obtain ⟨o, ho, _⟩ := q.there
    rw [h7] at ho; cases ho
  · rename_i e
    rw [if_neg e] at h
    exact h
end
section
variable {W : Wo} {wx : WX} {X : Cx} {nm : Nm} {t : Tbl} {k : Nat} {N : List Str} {sc ws : Scope}
theorem isVar_of {i : Nat} {e : Expr} (C : Cok W nm t k wx N sc ws X) (h : isVar N sc i e = true) : ∃ x p, e = .Name x p ∧ X.N[i]? = some x ∧ Vis X.env.scope x ∧ (x == ("__debug__" : Str)) = false ∧ (x == ("__classdict__" : Str)) = false := by
  cases e with
  | Name x p =>
    simp only [isVar, Bool.and_eq_true, decide_eq_true_eq, okName, Bool.not_eq_true'] at h
    exact ⟨x, p, rfl, by rw [C.eN]; exact h.1.1, C.vis h.1.2, h.2.1.1, h.2.1.2⟩
  | _ => cases h
theorem pe_varZ {i : Nat} {e : Expr} (C : Cok W nm t k wx N sc ws X) (h : isVar N sc i e = true) : PE X e (tVar i) := by
  obtain ⟨x, p, rfl, h1, h2, h3, h4⟩ := isVar_of C h
  exact pe_var h1 h2 h3 h4
theorem z_var {i : Nat} {e : Expr} {P : Prog} (C : Cok W nm t k wx N sc ws X) (h : isVar N sc i e = true) : PE X e (tE W wx (ev P (.v i))) := by
  refine pe_weak (pe_varZ C h) fun σ H Q q => ?_
  obtain ⟨G, O, s, rfl, r, q⟩ := q
  simp only [ev, readV] at q
  cases e : s.σ[i]? with
  | none => rw [e] at q; exact q.elim
  | some x =>
    rw [e] at q
    obtain ⟨v, o, h1, h2, h3⟩ := r.slots i x e
    cases x with
    | no => exact q.elim
    | sh d =>
      obtain ⟨_, y, rfl, ry⟩ := h3
      exact ⟨y, h1, Out.refl_ok (b := y) r q (ro_val (ry))⟩
    | own c =>
      simp only at q
      cases e2 : c.view with
      | none => rw [e2] at q; exact q.elim
      | some d =>
        rw [e2] at q
        obtain ⟨G2, a, e3, h4, fr, r2, rp⟩ := show_slot r e e2
        refine ⟨.ref a, h4, ?_⟩
        rw [← e3]
        exact q (.ref a) G2 _ fr r2 (ro_val (rp))
theorem z_lit {d : D} {c : Const} {j : Nat} {pos : Pos} {P : Prog} (h : litB d c = true) : PE X (.Constant c j pos) (tE W wx (ev P (.lit d))) := by
  have fin : ∀ {v : V}, (∀ G, Rep W G d v) → PE X (.Constant c j pos) (tC v) → PE X (.Constant c j pos) (tE W wx (ev P (.lit d))) := fun {v} rep p => pe_weak p fun σ H Q q => by
    obtain ⟨G, O, s, rfl, r, q⟩ := q
    exact Out.refl_ok (b := v) r q (ro_val (rep G))
  cases d with
  | non => cases c <;> first | (cases h; done) | exact fin (fun _ => rep_non) pe_non
  | bl b =>
    cases c <;> first | (cases h; done) | skip
    rename_i b'
    have : b = b' := by simpa [litB] using h
    subst this
    exact fin (fun _ => rep_bl) pe_bl
  | int b =>
    cases c <;> first | (cases h; done) | skip
    rename_i b'
    have : b = b' := by simpa [litB] using h
    subst this
    exact fin (fun _ => rep_int) pe_int
  | str x =>
    cases c <;> first | (cases h; done) | skip
    rename_i z
    simp only [litB, Bool.and_eq_true, beq_iff_eq, decide_eq_true_eq, List.all_eq_true] at h
    exact fin (fun _ => rep_strE ⟨h.1.2, h.2⟩ h.1.1) pe_str
  | _ => cases h
theorem isGl_of {ns : List Str} {i : Nat} {e : Expr} (C : Cok W nm t k wx N sc ws X) (h : isGl ns sc i e = true) : ∃ x p, e = .Name x p ∧ ns[i]? = some x ∧ Gl X x ∧ (x == ("__debug__" : Str)) = false := by
  cases e with
  | Name x p =>
    simp only [isGl, Bool.and_eq_true, decide_eq_true_eq, okName, Bool.not_eq_true'] at h
    exact ⟨x, p, rfl, h.1.1, C.gl h.1.2, h.2.1.1⟩
  | _ => cases h
theorem z_glob {i : Nat} {e : Expr} (C : Cok W nm t k wx N sc ws X) (h : isGl nm.gl sc i e = true) : PE X e (tE W wx (ev (prog t k) (.g i))) := by
  obtain ⟨x, p, rfl, h1, h2, h3⟩ := isGl_of C h
  cases e : t.glob i with
  | none =>
    refine ⟨fun pins s σ H Q I q => ?_⟩
    obtain ⟨G, O, s, rfl, r, q⟩ := q
    simp only [ev, prog, e] at q
    exact q.elim
  | some d =>
    obtain ⟨y, u, v, g1, g2, g3, g4⟩ := C.gls i d e
    rw [h1] at g1; cases g1
    refine pe_weak (pe_glob h2 g2 g3 h3) fun σ H Q q => ?_
    obtain ⟨G, O, s, rfl, r, q⟩ := q
    simp only [ev, prog, e] at q
    exact Out.refl_ok (b := v) r q (ro_val (g4 G))
theorem z_fn {i : Nat} {e : Expr} (C : Cok W nm t k wx N sc ws X) (h : isGl nm.fn sc i e = true) (hi : i < t.fns.length) : PE X e (tE W wx (ev (prog t k) (.fn i))) := by
  obtain ⟨x, p, rfl, h1, h2, h3⟩ := isGl_of C h
  obtain ⟨y, a, fd, ps, g1, g2, g3, _⟩ := (C.fns i _ (List.getElem?_eq_getElem hi)).ex
  rw [h1] at g1; cases g1
  refine pe_weak (pe_glob (v := .ref a) h2 g3 rfl h3) fun σ H Q q => ?_
  obtain ⟨G, O, s, rfl, r, q⟩ := q
  simp only [ev] at q
  exact Out.refl_ok (b := V.ref a) r q (ro_val (by simp only [Rep]; exact ⟨a, rfl, g2⟩))
/-- tuples and lists as they are written -/
theorem z_tup {is : List E} {es : List Expr} {x1 : Nat} {pos : Pos} {P : Prog} (h : EOks W wx X P is es) : PE X (.Tuple es x1 pos) (tE W wx (ev P (.tup is))) := by
  refine pe_weak (pe_tup h.pa) fun σ H Q q => ?_
  obtain ⟨G, O, s, e, r, q⟩ := q
  refine ⟨G, O, s, e, r, ?_⟩
  simp only [ev] at q
  refine Out.bind mono_RO q fun ds s1 _ vs G1 O1 fr r1 rr q1 => ?_
  split at q1
  · rename_i hl
    have k := Kont.of r1 q1
    exact ⟨by rw [Reps.len rr, ← lim_line]; exact hl, fun p np => k.tup r1.dom rr p np⟩
  · exact q1.elim
theorem z_lst {is : List E} {es : List Expr} {pos : Pos} {P : Prog} (h : EOks W wx X P is es) : PE X (.List es pos) (tE W wx (ev P (.lst is))) := by
  refine pe_weak (pe_lst h.pa) fun σ H Q q => ?_
  obtain ⟨G, O, s, e, r, q⟩ := q
  refine ⟨G, O, s, e, r, ?_⟩
  simp only [ev] at q
  refine Out.bind mono_RO q fun ds s1 _ vs G1 O1 fr r1 rr q1 => ?_
  split at q1
  · rename_i hl
    have k := Kont.of r1 q1
    exact ⟨by rw [Reps.len rr, ← lim_line]; exact hl, fun p np => k.lst r1.dom rr p np⟩
  · exact q1.elim
/-- what a call's answer means for who called -/
theorem sp_of_out {G : Gh} {O : List (Option Addr)} {s : Sta} {σ : L2.St} {ds : List D} {vs : List V} {Q : VK} {f : List D → List Cell → FRes} (r : StRep W G s σ O) (rd : Reps W G ds vs) (h : Out W wx G O σ (RO W) Q (fromF s.σ (f ds s.S))) : spZ W f vs G.H Q (WE wx σ) := by
  refine ⟨G, ds, s.S, rfl, r.cs, rd, ?_⟩
  cases e : f ds s.S with
  | stuck => rw [e] at h; exact h
  | ok o d S' =>
    rw [e] at h
    intro v G' fr cs ro
    obtain ⟨r2, f2⟩ := r.call fr cs
    exact h v G' O f2 r2 (ro.call r)
  | exn x S' =>
    rw [e] at h
    intro G' cls dx fr cs xr
    obtain ⟨r2, f2⟩ := r.call fr cs
    exact h G' O f2 r2 cls dx xr
theorem z_fcall {f : Nat} {is : List E} {es : List Expr} {g : Expr} {pos : Pos} (C : Cok W nm t k wx N sc ws X) (hf : f < t.fns.length) (hg : isGl nm.fn sc f g = true) (h : EOks W wx X (prog t k) is es) : PE X (.Call g es [] pos) (tE W wx (ev (prog t k) (.call f is))) := by
  obtain ⟨x, p, rfl, h1, h2, h3⟩ := isGl_of C hg
  obtain ⟨y, a, fd, ps, g1, g2, g3, g4, g5, g6, g7⟩ := (C.fns f _ (List.getElem?_eq_getElem hf)).ex
  rw [h1] at g1; cases g1
  have hr : Room (2 * k) X.A := C.room.mono (by omega)
  cases h with
  | nil =>
    refine ⟨fun pins s σ H Q I q => ?_⟩
    obtain ⟨G, O, z, rfl, r, q⟩ := q
    refine wpAny_Call_Name_kw (ld_glob I h2 g3 ?_ h3)
    refine PySem.W.callWith_K0 I.kIn g4 (run_fnS (us := []) g7 hr g5 (passAt C.tk σ) I .nil ?_)
    have q : Out W wx G O σ (RO W) Q (fromF z.σ (Phi t k f [] z.S)) := q
    exact sp_of_out r (show Reps W G [] [] by simp [Reps]) q
  | cons h1' h2' =>
    rename_i i e is' es'
    have hh : EOks W wx X (prog t k) (i :: is') (e :: es') := .cons h1' h2'
    refine pe_weak (pe_callS (E := WE wx) g7 hr h2 g3 g4 g5 (fun σ => passAt C.tk σ) hh.pa h3 (star_of h1'.ns) (noStar h2' _ _)) fun σ H Q q => ?_
    obtain ⟨G, O, s, e, r, q⟩ := q
    refine ⟨G, O, s, e, r, ?_⟩
    simp only [ev] at q
    refine Out.bind mono_RO q fun ds s1 _ vs G1 O1 fr r1 rr q1 => ?_
    exact sp_of_out (f := Phi t k f) r1 rr q1
end
end Z

set_option Elab.async false
set_option linter.all false
set_option maxRecDepth 100000
namespace Z
open PySem PySem.AutoSeq1
set_option maxHeartbeats 4000000
theorem list_extend_tuple_any (l : Addr) (items : Array Value) (n : Nat) (b : Addr) (items2 : Array Value) (n2 : Nat) (dd : Option Addr) (sl : Array (Option Value)) (hs0 : ¬(!items.isEmpty && Builtin.List.listTooLong (items.size + items2.size)) = true) (hs1 : items.size ≤ sizeLine) (hs2 : items.size + items2.size ≤ sizeLine + 1) :
    Meets (Builtin.«list.extend» ⟨[.ref l, .ref b], []⟩) (fun _ R s => s.heap.get? l = some { cls := .type "list", dict := none, data := .seq items n, slots := #[] } ∧ s.heap.get? b = some { cls := .type "tuple", dict := dd, data := .seq items2 n2, slots := sl } ∧ R (.ok (.ret Value.none)) { s with heap := s.heap.update l (Obj.mapSeq fun x => x ++ items2), toks := s.toks }) :=
  .of_wp fun prog w A R s h => by
    obtain ⟨hp, g, d, tk, os⟩ := s; obtain ⟨hl, hb, h⟩ := h; have f1 := idx_int; have f2 := sub_tuple_tuple; have f3 := sub_list_list; have f4 := sub_tuple_list; have f5 := sub_list_tuple;
    have hz' : (items ++ items2).size ≤ sizeLine + 1 := by rw [Array.size_append]; exact hs2
    wp_walk using (wpAny_updateSeq hl rfl (hz := hs1) (_hz' := hz')), wpAny_loadPart' hl, wpAny_loadPart' hb; exact ⟨_, rfl, h⟩
end Z

set_option Elab.async false
set_option linter.all false
set_option maxRecDepth 100000
set_option maxHeartbeats 2000000
set_option autoImplicit false
/-! ZSnd3: methods, objects that change. -/
namespace Z
open PySem PySem.Spec PyProof.Rows L2
section
variable {W : Wo} {G : Gh} {s : Sta} {σ : L2.St} {O : List (Option Addr)}
/-! ### places -/
def PlRep (σ : L2.St) (G : Gh) (p : Place) (a : Addr) : Prop := match p with
  | .slot i => σ[i]? = some (some (.ref a))
  | .cell n => G.M[n]? = some a
theorem place_at (r : StRep W G s σ O) {p : Place} {c : Cell} {a : Addr} (h : p.get s = some c) (q : PlRep σ G p a) : CRep W G c a ∧ ¬ G.F a ∧ (a ∈ ow O ∨ a ∈ G.M) := by
  cases p with
  | slot i =>
    simp only [Place.get] at h
    split at h
    · rename_i c' e
      cases h
      obtain ⟨b, h1, h2, h3, h4, h5, _⟩ := own_in r e
      have q : σ[i]? = some (some (.ref a)) := q
      rw [h2] at q
      cases q
      exact ⟨h3, h4, .inl h5⟩
    · cases h
  | cell n =>
    obtain ⟨b, h1, h2, h3⟩ := r.cells n c h
    have q : G.M[n]? = some a := q
    rw [h1] at q
    cases q
    exact ⟨h2, h3, .inr (List.mem_of_getElem? h1)⟩
/-- an object is changed -/
theorem place_set (r : StRep W G s σ O) {p : Place} {c c' : Cell} {a : Addr} {o' : HO} (h : p.get s = some c) (q : PlRep σ G p a) (new : Keep G ⟨upd G.H a o', G.F, G.M⟩ → CRep W ⟨upd G.H a o', G.F, G.M⟩ c' a) :
    StRep W ⟨upd G.H a o', G.F, G.M⟩ (p.set s c') σ O ∧ Frm G (ow O) ⟨upd G.H a o', G.F, G.M⟩ (ow O) := by
  obtain ⟨h1, h2, h3⟩ := place_at r h q
  obtain ⟨oa, ha, him⟩ := h1.there
  have k : Keep G ⟨upd G.H a o', G.F, G.M⟩ := by
    refine ⟨fun b x e i => ?_, fun b f => ⟨f, ?_⟩, fun _ _ e => e⟩
    · show upd G.H a o' b = some x
      rw [upd_ne]
      · exact e
      · rintro rfl
        rw [ha] at e; cases e
        rw [him] at i; cases i
    · show upd G.H a o' b = G.H b
      rw [upd_ne]
      rintro rfl
      exact h2 f
  have other : ∀ {x : Cell} {b : Addr}, b ≠ a → CRep W G x b → CRep W ⟨upd G.H a o', G.F, G.M⟩ x b := fun {x b} ne z => z.keep k (upd_ne ne)
  have fr : Frm G (ow O) ⟨upd G.H a o', G.F, G.M⟩ (ow O) := by
    refine ⟨k, fun b x e n1 n2 => ?_, fun b f => .inl f, fun b z => .inl z, fun b z => .inl z, fun b x e => ?_⟩
    · show upd G.H a o' b = some x
      rw [upd_ne]
      · exact e
      · rintro rfl
        exact h3.elim n1 n2
    · by_cases hb : b = a
      · subst hb; exact ⟨o', upd_same⟩
      · exact ⟨x, (upd_ne hb).trans e⟩
  have dom : Dom ⟨upd G.H a o', G.F, G.M⟩ := fun b f => by
    obtain ⟨x, e⟩ := r.dom b f
    exact fr.dm b x e
  have nO : (ow O).Nodup := (List.nodup_append.mp r.nd).1
  have nM : G.M.Nodup := (List.nodup_append.mp r.nd).2.1
  have dj := (List.nodup_append.mp r.nd).2.2
  refine ⟨?_, fr⟩
  cases p with
  | slot i =>
    simp only [Place.get] at h
    split at h
    · rename_i c0 e
      cases h
      obtain ⟨b, g1, g2, g3, g4, g5, g6⟩ := own_in r e
      have q : σ[i]? = some (some (.ref a)) := q
      rw [g2] at q
      cases q
      have hi : i < s.σ.length := (List.getElem?_eq_some_iff.mp e).1
      refine ⟨?_, ?_, fun j x hx => ?_, r.lenM, fun n x hx => ?_, r.nd, dom⟩
      · show σ.length = (s.σ.set i (.own c')).length
        simpa using r.len
      · show O.length = (s.σ.set i (.own c')).length
        simpa using r.lenO
      · have hx : (s.σ.set i (.own c'))[j]? = some x := hx
        by_cases hj : j = i
        · subst hj
          rw [List.getElem?_set_self hi] at hx
          cases hx
          exact ⟨_, _, g2, g1, a, rfl, rfl, new k, g4⟩
        · rw [List.getElem?_set_ne (Ne.symm hj)] at hx
          obtain ⟨v, o, e1, e2, e3⟩ := r.slots j x hx
          refine ⟨v, o, e1, e2, ?_⟩
          cases x with
          | no => exact e3
          | sh d => obtain ⟨z, y, z1, z2⟩ := e3; exact ⟨z, y, z1, Rep.keep k d y z2⟩
          | own c2 =>
            obtain ⟨b, z1, z2, z3, z4⟩ := e3
            refine ⟨b, z1, z2, other (fun z => ?_) z3, z4⟩
            subst z
            rw [z1] at e2
            exact hj (ow_uniq nO e2 g1)
      · obtain ⟨b, z1, z2, z3⟩ := r.cells n x hx
        refine ⟨b, z1, other (fun z => ?_) z2, z3⟩
        subst z
        exact g6 (List.mem_of_getElem? z1)
    · cases h
  | cell n =>
    have h : s.S[n]? = some c := h
    have q : G.M[n]? = some a := q
    have hn : n < s.S.length := (List.getElem?_eq_some_iff.mp h).1
    refine ⟨r.len, r.lenO, fun j x hx => ?_, ?_, fun m x hx => ?_, r.nd, dom⟩
    · obtain ⟨v, o, e1, e2, e3⟩ := r.slots j x hx
      refine ⟨v, o, e1, e2, ?_⟩
      cases x with
      | no => exact e3
      | sh d => obtain ⟨z, y, z1, z2⟩ := e3; exact ⟨z, y, z1, Rep.keep k d y z2⟩
      | own c2 =>
        obtain ⟨b, z1, z2, z3, z4⟩ := e3
        refine ⟨b, z1, z2, other (fun z => ?_) z3, z4⟩
        subst z
        have hb : b ∈ ow O := List.mem_filterMap.mpr ⟨some b, by rw [← z1]; exact List.mem_of_getElem? e2, rfl⟩
        exact dj b hb b (List.mem_of_getElem? q) rfl
    · show G.M.length = (s.S.set n c').length
      simpa using r.lenM
    · have hx : (s.S.set n c')[m]? = some x := hx
      by_cases hm : m = n
      · subst hm
        rw [List.getElem?_set_self hn] at hx
        cases hx
        exact ⟨a, q, new k, h2⟩
      · rw [List.getElem?_set_ne (Ne.symm hm)] at hx
        obtain ⟨b, z1, z2, z3⟩ := r.cells m x hx
        refine ⟨b, z1, other (fun z => ?_) z2, z3⟩
        subst z
        obtain ⟨l1, e1⟩ := List.getElem?_eq_some_iff.mp z1
        obtain ⟨l2, e2⟩ := List.getElem?_eq_some_iff.mp q
        exact hm ((List.getElem_inj nM).mp (e1.trans e2.symm))
end
section
variable {W : Wo} {wx : WX} {X : Cx} {P : Prog} {nm : Nm} {t : Tbl} {k : Nat} {N : List Str} {sc ws : Scope}
def RP (σ : L2.St) (G : Gh) (O : List (Option Addr)) (G' : Gh) (O' : List (Option Addr)) (_ : Sta) (p : Place) (v : V) : Prop := ∃ a, v = .ref a ∧ PlRep σ G' p a
theorem mono_RP {σ : L2.St} : Mono (RP σ) := fun _ _ _ _ _ _ _ _ _ _ h => h
/-- a place's reading -/
theorem EOk.pp {i : E} {e : Expr} (h : EOk W wx X P i e) : PE X e (tZ W wx (fun σ => RP σ) (rdPlace i (ev P i))) := by
  have gen : (∀ s, rdPlace i (ev P i) s = (ev P i s).bind fun x s1 => match x.2 with
    | .ref n => .ok (.cell n) s1
    | _ => .stuck) → PE X e (tZ W wx (fun σ => RP σ) (rdPlace i (ev P i))) := fun eq => pe_weak h.pv fun σ H Q q => by
    obtain ⟨G, O, s, e1, r, q⟩ := q
    refine ⟨G, O, s, e1, r, ?_⟩
    rw [eq] at q
    refine Out.bind mono_RP q fun a s1 _ b G1 O1 fr r1 rr h1 => ?_
    obtain ⟨o, d⟩ := a
    cases d with
    | ref n =>
      have rr : Rep W G1 (.ref n) b := rr
      simp only [Rep] at rr
      obtain ⟨a, rfl, ha⟩ := rr
      exact Out.refl_ok r1 h1 ⟨a, rfl, ha⟩
    | _ => exact h1.elim
  cases i with
  | v j =>
    refine pe_weak (h.var j rfl) fun σ H Q q => ?_
    obtain ⟨G, O, s, rfl, r, q⟩ := q
    have q : Out W wx G O σ (RP σ) Q (match s.σ[j]? with
      | some (.sh (.ref n)) => .ok (.cell n) s
      | some (.own _) => .ok (.slot j) s
      | _ => .stuck) := q
    cases e : s.σ[j]? with
    | none => rw [e] at q; exact q.elim
    | some x =>
      rw [e] at q
      obtain ⟨v, o, h1, h2, h3⟩ := r.slots j x e
      cases x with
      | no => exact q.elim
      | sh d =>
        obtain ⟨_, y, rfl, ry⟩ := h3
        cases d with
        | ref n =>
          simp only [Rep] at ry
          obtain ⟨a, rfl, ha⟩ := ry
          exact ⟨.ref a, h1, Out.refl_ok (b := V.ref a) r q ⟨a, rfl, ha⟩⟩
        | _ => exact q.elim
      | own c =>
        obtain ⟨a, _, rfl, _⟩ := h3
        exact ⟨.ref a, h1, Out.refl_ok (b := V.ref a) r q ⟨a, rfl, h1⟩⟩
  | _ => exact gen fun s => rfl
theorem plRep_keep {σ : L2.St} {G G' : Gh} {p : Place} {a : Addr} (k : Keep G G') (h : PlRep σ G p a) : PlRep σ G' p a := by
  cases p with
  | slot i => exact h
  | cell n => exact k.mm n a h
theorem nsup_base {o : Expr} {name : Str} {env : Env} (h : nsup o = true) : attributeBase o name env (eval o env) = eval o env := by
  cases o with
  | Call f es kws pos =>
    cases f with
    | Name id p =>
      cases es with
      | nil =>
        cases kws with
        | nil => cases h
        | cons _ _ => rfl
      | cons _ _ => rfl
    | _ => rfl
  | _ => rfl
theorem mshape_of {n : String} {e x : Expr} {es : List Expr} (h : mshape n e = some (x, es)) : ∃ apos pos, e = .Call (.Attribute x (Str.ofString n) apos) es [] pos ∧ nsup x = true ∧ (apos.endLine == pos.line) = true ∧ es.length < 20 := by
  unfold mshape at h
  split at h
  · split at h
    · rename_i q
      cases h
      obtain ⟨rfl, h1, h2, h3⟩ := q
      exact ⟨_, _, rfl, h1, h2, h3⟩
    · cases h
  · cases h
theorem few_of {is : List E} {es : List Expr} (h : EOks W wx X P is es) (env : Env) (pos : Pos) (hl : es.length < 20) :
    ((backTo pos (starEach es env)).all (fun x => !x.1) && (backToKw pos (keywordEach [] env)).all (fun x => x.1.isSome) && decide (es.length + ([] : List Keyword).length + (if ([] : List Keyword).isEmpty then 0 else 1) < 30)) = true := by
  rw [noStarAll h, Bool.true_and]
  show (true && decide (es.length + 0 + 0 < 30)) = true
  rw [Bool.true_and, decide_eq_true_eq]
  omega
theorem two_of {α : Type} {xs : List α} (h : xs.length = 2) : ∃ a b, xs = [a, b] := by
  match xs, h with
  | [a, b], _ => exact ⟨a, b, rfl⟩
theorem three_of {α : Type} {xs : List α} (h : xs.length = 3) : ∃ a b c, xs = [a, b, c] := by
  match xs, h with
  | [a, b, c], _ => exact ⟨a, b, c, rfl⟩
theorem z_meth1 {m : MPrim} {T id : String} {f : D → D → Option (Bool × D)} {o i : E} {x a : Expr} {apos pos : Pos} {name : Str} (ho : EOk W wx X P o x) (hi : EOks W wx X P [i] [a]) (pa : PlainAttrs T) (slot : PySem.Slot T name id) (hty : typeOf (.builtin id) = pure (.type "method_descriptor"))
    (hm : MtR X id (rM W (m1 f))) (hs : nsup x = true) (hl : (apos.endLine == pos.line) = true) (hf : ∀ d e, mprim2 m d e = f d e) (tyok : ∀ (G : Gh) (d : D) (v : V), mrecv m d = true → RepW W G d v → tyV X.K T v G.H) :
    PE X (.Call (.Attribute x name apos) [a] [] pos) (tE W wx (ev P (.mp m o [i]))) := by
  cases hi with
  | cons h1 h2 =>
    have hh : EOks W wx X P [i] [a] := .cons h1 h2
    refine pe_weak (pe_bm pa slot hty hm ho.pr hh.par (nsup_base hs) (few_of hh _ _ (by simp)) hl (star_of h1.ns) (noStar h2 _ _)) fun σ H Q q => ?_
    obtain ⟨G, O, s, e, r, q⟩ := q
    refine ⟨G, O, s, e, r, ?_⟩
    simp only [ev] at q
    refine Out.bind mono_RO q fun a s1 _ v G1 O1 fr r1 rr q1 => ?_
    cases e1 : a.get s1 with
    | none => rw [e1] at q1; exact q1.elim
    | some d0 =>
      rw [e1] at q1
      simp only at q1
      split at q1
      · rename_i hr
        refine ⟨tyok G1 d0 v hr (arg_w (G0 := G) (O0 := O) r1 rr e1), G1, O1, s1, rfl, r1, ?_⟩
        refine Out.bind mono_RO q1 fun as s2 ee xs G2 O2 fr2 r2 rs q2 => ?_
        have ra : AReps W σ G2 (a :: as) (v :: xs) := ⟨v, xs, rfl, arg_keep (O := O) (O2 := O) (s := s1) (O1 := O1) (G := G) fr2.keep rr, rs⟩
        obtain ⟨ds, o', d, hw, hp, kk⟩ := prim_end (p := mprim m) r2 ra q2
        have hlen := repsw_len hw
        have hxs : xs.length = 1 := by rw [areps_len rs, evrs_len ee]; rfl
        have h2' : ds.length = 2 := by rw [← hlen, List.length_cons, hxs]
        obtain ⟨d1, d2, rfl⟩ := two_of h2'
        obtain ⟨_, _, ee, w1, w2⟩ := hw
        cases ee
        exact ⟨G2, d1, [d2], o', d, rfl, r2.dom, w1, w2, (hf ..).symm.trans hp, kk⟩
      · exact q1.elim
theorem z_meth2 {m : MPrim} {T id : String} {f : D → D → D → Option (Bool × D)} {o i j : E} {x a b : Expr} {apos pos : Pos} {name : Str} (ho : EOk W wx X P o x) (hi : EOks W wx X P [i, j] [a, b]) (pa : PlainAttrs T) (slot : PySem.Slot T name id) (hty : typeOf (.builtin id) = pure (.type "method_descriptor"))
    (hm : MtR X id (rM W (m2 f))) (hs : nsup x = true) (hl : (apos.endLine == pos.line) = true) (hf : ∀ d e g, mprim3 m d e g = f d e g) (tyok : ∀ (G : Gh) (d : D) (v : V), mrecv m d = true → RepW W G d v → tyV X.K T v G.H) :
    PE X (.Call (.Attribute x name apos) [a, b] [] pos) (tE W wx (ev P (.mp m o [i, j]))) := by
  cases hi with
  | cons h1 h2 =>
    have hh : EOks W wx X P [i, j] [a, b] := .cons h1 h2
    refine pe_weak (pe_bm pa slot hty hm ho.pr hh.par (nsup_base hs) (few_of hh _ _ (by simp)) hl (star_of h1.ns) (noStar h2 _ _)) fun σ H Q q => ?_
    obtain ⟨G, O, s, e, r, q⟩ := q
    refine ⟨G, O, s, e, r, ?_⟩
    simp only [ev] at q
    refine Out.bind mono_RO q fun a s1 _ v G1 O1 fr r1 rr q1 => ?_
    cases e1 : a.get s1 with
    | none => rw [e1] at q1; exact q1.elim
    | some d0 =>
      rw [e1] at q1
      simp only at q1
      split at q1
      · rename_i hr
        refine ⟨tyok G1 d0 v hr (arg_w (G0 := G) (O0 := O) r1 rr e1), G1, O1, s1, rfl, r1, ?_⟩
        refine Out.bind mono_RO q1 fun as s2 ee xs G2 O2 fr2 r2 rs q2 => ?_
        have ra : AReps W σ G2 (a :: as) (v :: xs) := ⟨v, xs, rfl, arg_keep (O := O) (O2 := O) (s := s1) (O1 := O1) (G := G) fr2.keep rr, rs⟩
        obtain ⟨ds, o', d, hw, hp, kk⟩ := prim_end (p := mprim m) r2 ra q2
        have hlen := repsw_len hw
        have hxs : xs.length = 2 := by rw [areps_len rs, evrs_len ee]; rfl
        have h2' : ds.length = 3 := by rw [← hlen, List.length_cons, hxs]
        obtain ⟨d1, d2, d3, rfl⟩ := three_of h2'
        obtain ⟨_, _, ee, w1, w2⟩ := hw
        cases ee
        exact ⟨G2, d1, [d2, d3], o', d, rfl, r2.dom, w1, w2, (hf ..).symm.trans hp, kk⟩
      · exact q1.elim
theorem ty_str {G : Gh} {d : D} {v : V} (h : ∃ x, d = .str x) (w : RepW W G d v) : tyV X.K "str" v G.H := by
  obtain ⟨x, rfl⟩ := h
  obtain ⟨rfl, _⟩ := repw_str w
  rfl
theorem ty_dict {G : Gh} {d : D} {v : V} (h : ∃ x y, d = .dct x y) (w : RepW W G d v) : tyV X.K "dict" v G.H := by
  obtain ⟨x, y, rfl⟩ := h
  obtain ⟨a, kvs, rfl, e, _⟩ := w
  exact .inr (.inr (.inl ⟨rfl, .inl ⟨kvs, e⟩⟩))
theorem z_mp (C : Cok W nm t k wx N sc ws X) {m : MPrim} {o : E} {is : List E} {e x : Expr} {es : List Expr} (hs : mshape (mpName m) e = some (x, es)) (ha : es.length = mar m) (ho : EOk W wx X P o x) (hi : EOks W wx X P is es) : PE X e (tE W wx (ev P (.mp m o is))) := by
  obtain ⟨apos, pos, rfl, h1, h2, h3⟩ := mshape_of hs
  have u65 := units64 C.room
  have str : ∀ (m' : MPrim), (∀ d, mrecv m' d = true → ∃ x, d = .str x) → ∀ (G : Gh) (d : D) (v : V), mrecv m' d = true → RepW W G d v → tyV X.K "str" v G.H := fun m' hm G d v hr w => ty_str (hm d hr) w
  have dic : ∀ (m' : MPrim), (∀ d, mrecv m' d = true → ∃ x y, d = .dct x y) → ∀ (G : Gh) (d : D) (v : V), mrecv m' d = true → RepW W G d v → tyV X.K "dict" v G.H := fun m' hm G d v hr w => ty_dict (hm d hr) w
  cases m with
  | join =>
    obtain ⟨a, rfl⟩ := List.length_eq_one_iff.mp ha
    obtain ⟨i, rfl, _⟩ := hi.one
    exact z_meth1 ho hi PySem.F.plainAttrs_str PySem.F.slot_str_join PySem.F.type_str_join (mt_joinZ C.eK) h1 h2 (fun _ _ => rfl) (str _ fun d hd => by cases d <;> first | exact ⟨_, rfl⟩ | cases hd)
  | zfill =>
    obtain ⟨a, rfl⟩ := List.length_eq_one_iff.mp ha
    obtain ⟨i, rfl, _⟩ := hi.one
    exact z_meth1 ho hi PySem.F.plainAttrs_str PySem.F.slot_str_zfill PySem.F.type_str_zfill mt_zfillZ h1 h2 (fun _ _ => rfl) (str _ fun d hd => by cases d <;> first | exact ⟨_, rfl⟩ | cases hd)
  | find3 =>
    obtain ⟨a, b, rfl⟩ := two_of ha
    obtain ⟨i, j, rfl, _⟩ := hi.two
    exact z_meth2 ho hi PySem.F.plainAttrs_str PySem.F.slot_str_find PySem.F.type_str_find mt_find3Z h1 h2 (fun _ _ _ => rfl) (str _ fun d hd => by cases d <;> first | exact ⟨_, rfl⟩ | cases hd)
  | get1 =>
    obtain ⟨a, rfl⟩ := List.length_eq_one_iff.mp ha
    obtain ⟨i, rfl, _⟩ := hi.one
    exact z_meth1 ho hi PySem.F.plainAttrs_dict PySem.F.slot_dict_get PySem.F.type_dict_get (mt_get1Z (by omega)) h1 h2 (fun _ _ => rfl) (dic _ fun d hd => by cases d <;> first | exact ⟨_, _, rfl⟩ | cases hd)
  | get2 =>
    obtain ⟨a, b, rfl⟩ := two_of ha
    obtain ⟨i, j, rfl, _⟩ := hi.two
    exact z_meth2 ho hi PySem.F.plainAttrs_dict PySem.F.slot_dict_get PySem.F.type_dict_get (mt_get2Z (by omega)) h1 h2 (fun _ _ _ => rfl) (dic _ fun d hd => by cases d <;> first | exact ⟨_, _, rfl⟩ | cases hd)
  | index => exact absurd (show es.length = 99 from ha) (by omega)
  | startswith => exact absurd (show es.length = 99 from ha) (by omega)
/-! ### methods that change a list -/
theorem mt_extendT : MtM X "list.extend" (fun x vs H Q => ∃ l b xs zs, x = .ref l ∧ vs = [.ref b] ∧ H l = some (.lst xs) ∧ SqT X.K H b zs ∧ xs.length + zs.length ≤ sizeLine ∧ Q .non (upd H l (.lst (xs ++ zs)))) := by
  intro pins s σ H x vs v us Q I rx rv h
  obtain ⟨l, b, xs, zs, rfl, rfl, hH, hB, hz, q⟩ := h
  cases rx
  obtain ⟨u, rfl, ru⟩ := rv.one
  cases ru
  obtain ⟨z, its, n, r, hl, e⟩ := I.lstM hH
  obtain ⟨its2, r2, ht, hz2⟩ := I.tuple hB
  have hl2 := r2.length
  have hsz : its.toArray.size + its2.toArray.size ≤ sizeLine := by rw [List.size_toArray, List.size_toArray]; omega
  have hlong : ¬ (!its.toArray.isEmpty && Builtin.List.listTooLong (its.toArray.size + its2.toArray.size)) = true := by
    rw [notLongL hsz, Bool.and_false]
    exact Bool.false_ne_true
  obtain ⟨⟨oc, od, odt, osl⟩, e2, hc, n2, hd⟩ := ht
  simp only at hc hd
  subst hc hd
  refine call_meets F.slot_list_extend ⟨_, e, rfl⟩ F.entry_list_extend (F.args_list_extend_2 _ _)
    (list_extend_tuple_any l its.toArray n b its2.toArray n2 od osl hlong (by rw [List.size_toArray]; omega) (by omega)) ⟨e, e2, ?_⟩
  refine ⟨.non, _, I.lset (its' := its ++ its2) hH e (by simp) (r.append r2) ?_, rfl, q⟩
  rw [List.length_append]
  omega
/-- what a changing method asks -/
def rMu (W : Wo) (m : Mut) : V → List V → Hp → VK → Prop := fun x vs H Q => ∃ (G : Gh) (a : Addr) (c c' : Cell) (ds : List D) (d : D), G.H = H ∧ Dom G ∧ x = .ref a ∧ CRep W G c a ∧ ¬ G.F a ∧ Reps W G ds vs ∧ mutC m c ds = some (c', d) ∧
  ∀ o' v, (Keep G ⟨upd G.H a o', G.F, G.M⟩ → CRep W ⟨upd G.H a o', G.F, G.M⟩ c' a ∧ Rep W ⟨upd G.H a o', G.F, G.M⟩ d v) → Q v (upd H a o')
theorem reps_one {G : Gh} {d : D} {vs : List V} (h : Reps W G [d] vs) : ∃ v, vs = [v] ∧ Rep W G d v := by
  simp only [Reps] at h
  obtain ⟨v, r, rfl, h1, rfl⟩ := h
  exact ⟨v, rfl, h1⟩
theorem reps_two {G : Gh} {d e : D} {vs : List V} (h : Reps W G [d, e] vs) : ∃ v u, vs = [v, u] ∧ Rep W G d v ∧ Rep W G e u := by
  simp only [Reps] at h
  obtain ⟨v, r, rfl, h1, u, r', rfl, h2, rfl⟩ := h
  exact ⟨v, u, rfl, h1, h2⟩
theorem mt_appendZ : MtR X "list.append" (rMu W .append) := by
  intro pins s σ H x xs v us Q I rx rs q
  obtain ⟨G, a, c, c', ds, d, rfl, dm, rfl, hc, nf, rd, hm, k⟩ := q
  match ds, rd, hm with
  | [e], rd, hm =>
    obtain ⟨u, rfl, re⟩ := reps_one rd
    cases c with
    | L es =>
      have hm : appendC (.L es) e = some (c', d) := hm
      simp only [appendC] at hm
      split at hm
      · rename_i hl
        cases hm
        obtain ⟨ws, h1, h2⟩ := hc
        refine mt_append pins s σ _ _ _ v us Q I rx rs ⟨a, ws, u, rfl, rfl, h1, by rw [h2.len, ← lim_line]; exact hl, k _ _ fun kp => ⟨⟨_, upd_same, (Reps.keep kp _ _ h2).append (.one (Rep.keep kp _ _ re))⟩, rep_non⟩⟩
      · cases hm
    | _ => cases hm
  | [], _, hm => cases hm
  | _ :: _ :: _, _, hm => cases hm
theorem mt_extendZ (hK : W.K = X.K) : MtR X "list.extend" (rMu W .extend) := by
  intro pins s σ H x xs v us Q I rx rs q
  obtain ⟨G, a, c, c', ds, d, rfl, dm, rfl, hc, nf, rd, hm, k⟩ := q
  match ds, rd, hm with
  | [e], rd, hm =>
    obtain ⟨u, rfl, re⟩ := reps_one rd
    cases c with
    | L es =>
      have hm : extendC (.L es) e = some (c', d) := hm
      simp only [extendC] at hm
      cases e2 : seqOf e with
      | none => rw [e2] at hm; cases hm
      | some zs =>
        rw [e2] at hm
        simp only at hm
        split at hm
        · rename_i hl
          cases hm
          obtain ⟨ws, h1, h2⟩ := hc
          obtain ⟨b, us', rfl, hs, r⟩ := reps_seq re.w e2
          have fin := k (.lst (ws ++ us')) .non fun kp => ⟨⟨_, upd_same, (Reps.keep kp _ _ h2).append (Reps.keep kp _ _ r)⟩, rep_non⟩
          rcases hs with hs | hs
          · exact mt_extend pins s σ _ _ _ v us Q I rx rs ⟨a, b, ws, us', rfl, rfl, h1, hs, by rw [h2.len, r.len, ← lim_line]; exact hl, fin⟩
          · exact mt_extendT pins s σ _ _ _ v us Q I rx rs ⟨a, b, ws, us', rfl, rfl, h1, hK ▸ hs, by rw [h2.len, r.len, ← lim_line]; exact hl, fin⟩
        · cases hm
    | _ => cases hm
  | [], _, hm => cases hm
  | _ :: _ :: _, _, hm => cases hm
theorem Reps.dropLast {G : Gh} {ds : List D} {vs : List V} (h : Reps W G ds vs) : Reps W G ds.dropLast vs.dropLast := by
  rw [List.dropLast_eq_take, List.dropLast_eq_take, h.len]
  exact h.take _
theorem mt_popZ : MtR X "list.pop" (rMu W .pop) := by
  intro pins s σ H x xs v us Q I rx rs q
  obtain ⟨G, a, c, c', ds, d, rfl, dm, rfl, hc, nf, rd, hm, k⟩ := q
  match ds, rd, hm with
  | [], rd, hm =>
    have e : xs = [] := by simpa only [Reps] using rd
    subst e
    cases c with
    | L es =>
      have hm : popC (.L es) = some (c', d) := hm
      simp only [popC] at hm
      cases e2 : es.getLast? with
      | none => rw [e2] at hm; cases hm
      | some z =>
        rw [e2] at hm
        cases hm
        obtain ⟨ws, h1, h2⟩ := hc
        rw [List.getLast?_eq_getElem?] at e2
        obtain ⟨w, hw, rw'⟩ := h2.get e2
        rw [← h2.len] at hw
        exact mt_pop pins s σ _ _ _ v us Q I rx rs ⟨a, ws, w, rfl, rfl, h1, hw, k _ _ fun kp => ⟨⟨_, upd_same, (Reps.keep kp _ _ h2).dropLast⟩, Rep.keep kp _ _ rw'⟩⟩
    | _ => cases hm
  | _ :: _, _, hm => cases hm
theorem mt_insertZ : MtR X "list.insert" (rMu W .insert) := by
  intro pins s σ H x xs v us Q I rx rs q
  obtain ⟨G, a, c, c', ds, d, rfl, dm, rfl, hc, nf, rd, hm, k⟩ := q
  match ds, rd, hm with
  | [e, f], rd, hm =>
    obtain ⟨u, w, rfl, re, rf⟩ := reps_two rd
    cases c with
    | L es =>
      cases e with
      | int i =>
        have hm : insertC (.L es) (.int i) f = some (c', d) := hm
        simp only [insertC] at hm
        split at hm
        · rename_i hl
          cases hm
          cases repw_int re.w
          obtain ⟨ws, h1, h2⟩ := hc
          refine mt_insert pins s σ _ _ _ v us Q I rx rs ⟨a, ws, i, w, rfl, rfl, h1, by rw [h2.len, ← lim_line]; exact hl.1, hl.2.1, by have := hl.2.2; omega, k _ _ fun kp => ?_⟩
          have q2 := Reps.keep kp _ _ h2
          exact ⟨⟨_, upd_same, ((q2.take _).append (.one (Rep.keep kp _ _ rf))).append (q2.drop _)⟩, rep_non⟩
        · cases hm
      | _ => cases hm
    | _ => cases hm
  | [], _, hm => cases hm
  | [_], _, hm => cases hm
  | _ :: _ :: _ :: _, _, hm => cases hm
/-- a changing method, called -/
theorem mu_end {p : Place} {m : Mut} {G : Gh} {O : List (Option Addr)} {s : Sta} {σ : L2.St} {a : Addr} {ds : List D} {vs : List V} {Q : VK} (r : StRep W G s σ O) (pl : PlRep σ G p a) (rd : Reps W G ds vs)
    (h : Out W wx G O σ (RO W) Q (match p.get s with
        | some c => match mutC m c ds with
          | some (c', d) => .ok (false, d) (p.set s c')
          | none => .stuck
        | none => .stuck)) : rMu W m (.ref a) vs G.H Q := by
  cases e : p.get s with
  | none => rw [e] at h; exact h.elim
  | some c =>
    rw [e] at h
    simp only at h
    cases e2 : mutC m c ds with
    | none => rw [e2] at h; exact h.elim
    | some x =>
      obtain ⟨c', d⟩ := x
      rw [e2] at h
      obtain ⟨h1, h2, h3⟩ := place_at r e pl
      refine ⟨G, a, c, c', ds, d, rfl, r.dom, rfl, h1, h2, rd, e2, fun o' v new => ?_⟩
      have kp : Keep G ⟨upd G.H a o', G.F, G.M⟩ := by
        obtain ⟨oa, ha, him⟩ := h1.there
        refine ⟨fun b x e i => ?_, fun b f => ⟨f, ?_⟩, fun _ _ e => e⟩
        · show upd G.H a o' b = some x
          rw [upd_ne]
          · exact e
          · rintro rfl
            rw [ha] at e; cases e
            rw [him] at i; cases i
        · show upd G.H a o' b = G.H b
          rw [upd_ne]
          rintro rfl
          exact h2 f
      obtain ⟨n1, n2⟩ := new kp
      obtain ⟨r2, f2⟩ := place_set r e pl (fun _ => n1)
      exact h v ⟨upd G.H a o', G.F, G.M⟩ O f2 r2 (ro_val n2)
theorem z_mu (C : Cok W nm t k wx N sc ws X) {m : Mut} {o : E} {is : List E} {e x : Expr} {es : List Expr} (hs : mshape (muName m) e = some (x, es)) (ha : es.length = uar m) (ho : EOk W wx X P o x) (hi : EOks W wx X P is es) : PE X e (tE W wx (ev P (.mu m o is))) := by
  obtain ⟨apos, pos, rfl, h1, h2, h3⟩ := mshape_of hs
  have tyok : ∀ {G : Gh} {s : Sta} {σ : L2.St} {O : List (Option Addr)} {p : Place} {a : Addr}, StRep W G s σ O → PlRep σ G p a → isList (p.get s) = true → tyV X.K "list" (.ref a) G.H := fun {G s σ O p a} r pl q => by
    cases e : p.get s with
    | none => rw [e] at q; cases q
    | some c =>
      rw [e] at q
      obtain ⟨h1, _⟩ := place_at r e pl
      cases c with
      | L ds =>
        obtain ⟨vs, e1, _⟩ := h1
        exact .inl ⟨rfl, vs, .inl (.inl e1)⟩
      | _ => cases q
  have fin : ∀ {id : String}, PySem.Slot "list" (Str.ofString (muName m)) id → typeOf (.builtin id) = pure (.type "method_descriptor") → MtR X id (rMu W m) → PE X (.Call (.Attribute x (Str.ofString (muName m)) apos) es [] pos) (tE W wx (ev P (.mu m o is))) := fun {id} slot hty hm => by
    have core : ∀ {σ : L2.St} {H : Hp} {Q : VK}, tE W wx (ev P (.mu m o is)) σ H Q → tZ W wx (fun σ => RP σ) (rdPlace o (ev P o)) σ H fun x H1 => tyV X.K "list" x H1 ∧ tVs W wx (evs P is) σ H1 fun xs H2 => rMu W m x xs H2 Q := fun {σ H Q} q => by
      obtain ⟨G, O, s, e, r, q⟩ := q
      refine ⟨G, O, s, e, r, ?_⟩
      simp only [ev] at q
      refine Out.bind mono_RO q fun p s1 _ v G1 O1 fr r1 rr q1 => ?_
      obtain ⟨a, rfl, pl⟩ := rr
      split at q1
      · rename_i il
        refine ⟨tyok r1 pl il, G1, O1, s1, rfl, r1, ?_⟩
        refine Out.bind mono_RO q1 fun ds s2 _ vs G2 O2 fr2 r2 rs q2 => ?_
        exact mu_end r2 (plRep_keep fr2.keep pl) rs q2
      · exact q1.elim
    cases hi with
    | nil =>
      refine pe_weak (pe_bm0 PySem.F.plainAttrs_list slot hty hm ho.pp (nsup_base h1) h2) fun σ H Q q => ?_
      obtain ⟨G, O, s, e, r, q⟩ := q
      refine ⟨G, O, s, e, r, ?_⟩
      simp only [ev] at q
      refine Out.bind mono_RO q fun p s1 _ v G1 O1 fr r1 rr q1 => ?_
      obtain ⟨a, rfl, pl⟩ := rr
      split at q1
      · rename_i il
        exact ⟨tyok r1 pl il, mu_end r1 pl (by simp [Reps]) q1⟩
      · exact q1.elim
    | cons g1 g2 =>
      exact pe_weak (pe_bm PySem.F.plainAttrs_list slot hty hm ho.pp (EOks.cons g1 g2).pa (nsup_base h1) (few_of (.cons g1 g2) _ _ h3) h2 (star_of g1.ns) (noStar g2 _ _)) fun σ H Q q => core q
  cases m with
  | append => exact fin PySem.F.slot_list_append PySem.F.type_list_append mt_appendZ
  | extend => exact fin PySem.F.slot_list_extend PySem.F.type_list_extend (mt_extendZ C.eK)
  | pop => exact fin PySem.F.slot_list_pop PySem.F.type_list_pop mt_popZ
  | insert => exact fin PySem.F.slot_list_insert PySem.F.type_list_insert mt_insertZ
  | popAt => exact absurd (show es.length = 99 from ha) (by omega)
end
end Z

set_option Elab.async false
set_option linter.all false
set_option maxRecDepth 100000
set_option maxHeartbeats 2000000
set_option autoImplicit false
/-! ZSnd4: tests, and, or, not, if-else. -/
namespace Z
open PySem PySem.Spec PyProof.Rows L2
section
variable {W : Wo} {wx : WX} {X : Cx} {P : Prog} {nm : Nm} {t : Tbl} {k : Nat} {N : List Str} {sc ws : Scope}
structure TOk (W : Wo) (wx : WX) (X : Cx) (P : Prog) (i : T) (e : Expr) : Prop where
  pt : PT X e (tB W wx (evt P i))
inductive TOks (W : Wo) (wx : WX) (X : Cx) (P : Prog) : List T → List Expr → Prop where
  | nil : TOks W wx X P [] []
  | cons {i : T} {e : Expr} {is : List T} {es : List Expr} : TOk W wx X P i e → TOks W wx X P is es → TOks W wx X P (i :: is) (e :: es)
theorem tru_of {G : Gh} {d : D} {v : V} {b : Bool} (hK : W.K = X.K) (h : RepW W G d v) (e : truthD d = some b) : TruV X.K v G.H b := by
  have hs : sizeLine = 16777216 := sizeLine_eq
  have hL : LIM = 16777216 := rfl
  cases d with
  | non => cases e; cases repw_non h; rfl
  | bl c => cases e; cases repw_bl h; rfl
  | int i => cases e; cases repw_int h; rfl
  | str x =>
    cases e
    obtain ⟨rfl, h1, _⟩ := repw_str h
    refine ⟨by rw [toS_len, ← lim_line]; exact h1, ?_⟩
    rw [toS_len]
    cases x <;> simp <;> omega
  | tup ds =>
    cases e
    obtain ⟨a, vs, rfl, h1, h2⟩ := repw_tup h
    refine .inr (.inl ⟨vs, hK ▸ h1, ?_⟩)
    have := h2.len
    cases ds <;> cases vs <;> simp_all
  | lst ds =>
    cases e
    obtain ⟨a, vs, rfl, h1, h2⟩ := h
    refine .inl ⟨vs, .inl (.inl h1), ?_⟩
    have := h2.len
    cases ds <;> cases vs <;> simp_all
  | dct ks us =>
    cases e
    obtain ⟨a, kvs, rfl, h1, h2, _⟩ := h
    refine .inr (.inr ⟨kvs, h1, ?_⟩)
    subst h2
    cases kvs <;> simp
  | _ => cases e
theorem kont_bl {G : Gh} {s : Sta} {σ : L2.St} {O : List (Option Addr)} {o : Bool} {c : Bool} {Q : Bool → Hp → Prop} (r : StRep W G s σ O) (h : Out W wx G O σ RB Q (.ok c s)) : Kont W G (fun z H' => ∃ k, z = .bl k ∧ Q k H') o (.bl c) := by
  intro v G' e n
  unfold NewRep at n
  split at n
  · obtain ⟨c', a, h1, _⟩ := n
    cases h1
  · exact ⟨c, repw_bl n.w, h c G' O (r.fr e) (r.ext e) rfl⟩
theorem z_tcmp (C : Cok W nm t k wx N sc ws X) {op : CmpOp} {i j : E} {a b : Expr} {pos : Pos} (h1 : EOk W wx X P i a) (h2 : EOk W wx X P j b) (hm : behindInMarks op b = false) : TOk W wx X P (.cmp op i j) (.Compare a [op] [b] pos) := by
  have u65 := units64 C.room
  refine ⟨pt_weak (pt_cmpR (op_cmp u65 C.eK op) h1.pr h2.pr hm) fun σ H Q q => ?_⟩
  obtain ⟨G, O, s, e, r, q⟩ := q
  refine ⟨G, O, s, e, r, ?_⟩
  simp only [evt] at q
  refine Out.bind mono_RB q fun a s1 _ x G1 O1 fr r1 rr q1 => ⟨G1, O1, s1, rfl, r1, ?_⟩
  refine Out.bind mono_RB q1 fun b s2 _ y G2 O2 fr2 r2 rr2 q2 => ?_
  have ra : RA W σ G2 O2 G2 O2 s2 a x := arg_keep (O := O) (O2 := O2) fr2.keep rr
  cases e1 : a.get s2 with
  | none => rw [e1] at q2; exact q2.elim
  | some d =>
    cases e2 : b.get s2 with
    | none => rw [e1, e2] at q2; exact q2.elim
    | some e =>
      rw [e1, e2] at q2
      simp only at q2
      cases e3 : cmpD op d e with
      | none => rw [e3] at q2; exact q2.elim
      | some p =>
        obtain ⟨o, d'⟩ := p
        rw [e3] at q2
        cases d' with
        | bl c => exact ⟨G2, d, e, o, .bl c, rfl, r2.dom, arg_w r2 ra e1, arg_w r2 rr2 e2, e3, kont_bl r2 q2⟩
        | _ => exact q2.elim
theorem z_te (C : Cok W nm t k wx N sc ws X) {i : E} {a : Expr} (h : EOk W wx X P i a) (hs : plainT a = true) : TOk W wx X P (.e i) a := by
  refine ⟨pt_weak (pt_truth h.pr (truth_he hs)) fun σ H Q q => ?_⟩
  obtain ⟨G, O, s, e, r, q⟩ := q
  refine ⟨G, O, s, e, r, ?_⟩
  simp only [evt] at q
  refine Out.bind mono_RB q fun a s1 _ x G1 O1 fr r1 rr q1 => ?_
  cases e1 : a.get s1 with
  | none => rw [e1] at q1; exact q1.elim
  | some d =>
    rw [e1] at q1
    simp only at q1
    cases e2 : truthD d with
    | none => rw [e2] at q1; exact q1.elim
    | some b =>
      rw [e2] at q1
      exact ⟨b, tru_of C.eK (arg_w (G0 := G) (O0 := O) r1 rr e1) e2, Out.refl_ok (b := b) r1 q1 rfl⟩
theorem z_tnot {i : T} {a : Expr} {pos : Pos} (h : TOk W wx X P i a) : TOk W wx X P (.not i) (.UnaryOp .Not a pos) := by
  refine ⟨pt_weak (pt_not h.pt) fun σ H Q q => ?_⟩
  obtain ⟨G, O, s, e, r, q⟩ := q
  refine ⟨G, O, s, e, r, ?_⟩
  simp only [evt] at q
  refine Out.bind mono_RB q fun a s1 _ x G1 O1 fr r1 rr q1 => ?_
  have rr : a = x := rr
  subst rr
  exact Out.refl_ok (b := !a) r1 q1 rfl
theorem z_tbop {op : BoolOp} {b : Bool} (hb : bopIs b op = true) {pos : Pos} : ∀ {is : List T} {es : List Expr}, TOks W wx X P is es → is ≠ [] → PW X (.BoolOp op es pos) (tB W wx (evtb P b is))
  | _, _, .nil, h => absurd rfl h
  | _, _, .cons (i := i) (e := e) h1 .nil, _ => by
    have w : ∀ (σ : L2.St) (H : Hp) (Q : Bool → Hp → Prop), tB W wx (evtb P b [i]) σ H Q → tB W wx (evt P i) σ H Q := fun σ H Q q => by
      obtain ⟨G, O, s, e, r, q⟩ := q
      refine ⟨G, O, s, e, r, ?_⟩
      simp only [evtb] at q
      exact Out.bind mono_RB q fun a s1 _ x G1 O1 fr r1 rr q1 => Out.refl_ok (b := x) r1 q1 rr
    cases op with
    | And => exact ⟨fun wh pins s σ H Q I q => (pw_and1 h1.pt).run wh pins s σ H Q I (w σ H Q q)⟩
    | Or => exact ⟨fun wh pins s σ H Q I q => (pw_or1 h1.pt).run wh pins s σ H Q I (w σ H Q q)⟩
  | _, _, .cons (i := i) (e := e) h1 (.cons (i := j) (e := e2) (is := js) h2 hs), _ => by
    have ih := z_tbop hb (pos := pos) (.cons h2 hs) (by simp)
    cases op with
    | And =>
      have hb : b = true := hb
      subst hb
      refine ⟨fun wh pins s σ H Q I q => (pw_and h1.pt ih).run wh pins s σ H Q I ?_⟩
      obtain ⟨G, O, s, e, r, q⟩ := q
      refine ⟨G, O, s, e, r, ?_⟩
      simp only [evtb] at q
      refine Out.bind mono_RB q fun a s1 _ x G1 O1 fr r1 rr q1 => ?_
      have rr : a = x := rr
      subst rr
      split at q1
      · rename_i ec
        rw [if_pos ec]
        exact ⟨G1, O1, s1, rfl, r1, q1⟩
      · rename_i ec
        rw [if_neg ec]
        have ec : a = false := by simpa using ec
        subst ec
        exact Out.refl_ok (b := false) r1 q1 rfl
    | Or =>
      have hb : b = false := by simpa [bopIs] using hb
      subst hb
      refine ⟨fun wh pins s σ H Q I q => (pw_or h1.pt ih).run wh pins s σ H Q I ?_⟩
      obtain ⟨G, O, s, e, r, q⟩ := q
      refine ⟨G, O, s, e, r, ?_⟩
      simp only [evtb] at q
      refine Out.bind mono_RB q fun a s1 _ x G1 O1 fr r1 rr q1 => ?_
      have rr : a = x := rr
      subst rr
      cases a with
      | true => exact Out.refl_ok (b := true) r1 q1 rfl
      | false => exact ⟨G1, O1, s1, rfl, r1, q1⟩
theorem z_notV (C : Cok W nm t k wx N sc ws X) {i : E} {a : Expr} {pos : Pos} (h : EOk W wx X P i a) : PE X (.UnaryOp .Not a pos) (tE W wx (ev P (.notV i))) := by
  refine pe_weak (pe_notT h.pr) fun σ H Q q => ?_
  obtain ⟨G, O, s, e, r, q⟩ := q
  refine ⟨G, O, s, e, r, ?_⟩
  simp only [ev] at q
  refine Out.bind mono_RO q fun a s1 _ x G1 O1 fr r1 rr q1 => ?_
  cases e1 : a.get s1 with
  | none => rw [e1] at q1; exact q1.elim
  | some d =>
    rw [e1] at q1
    simp only at q1
    cases e2 : truthD d with
    | none => rw [e2] at q1; exact q1.elim
    | some b =>
      rw [e2] at q1
      exact ⟨b, tru_of C.eK (arg_w (G0 := G) (O0 := O) r1 rr e1) e2, Out.refl_ok (b := V.bl (!b)) r1 q1 (ro_val rep_bl)⟩
theorem z_bopV {op : BoolOp} {b : Bool} (hb : bopIs b op = true) {pos : Pos} : ∀ {is : List E} {es : List Expr}, EOks W wx X P is es → is ≠ [] → PE X (.BoolOp op es pos) (tE W wx (evb P b is))
  | _, _, .nil, h => absurd rfl h
  | _, _, .cons (i := i) (e := e) h1 .nil, _ => by
    refine pe_weak (pe_one h1.pv) fun σ H Q q => ?_
    obtain ⟨G, O, s, e, r, q⟩ := q
    refine ⟨G, O, s, e, r, ?_⟩
    simp only [evb] at q
    refine Out.bind mono_RO q fun a s1 _ x G1 O1 fr r1 rr q1 => ?_
    obtain ⟨o, d⟩ := a
    cases d with
    | bl c =>
      cases repw_bl (show Rep W G1 (.bl c) x from rr).w
      exact Out.refl_ok (b := V.bl c) r1 q1 (ro_val rep_bl)
    | _ => exact q1.elim
  | _, _, .cons (i := i) (e := e) h1 (.cons (i := j) (e := e2) (is := js) h2 hs), _ => by
    have ih := z_bopV hb (pos := pos) (.cons h2 hs) (by simp)
    cases op with
    | And =>
      have hb : b = true := hb
      subst hb
      refine pe_weak (pe_and h1.pv ih) fun σ H Q q => ?_
      obtain ⟨G, O, s, e, r, q⟩ := q
      refine ⟨G, O, s, e, r, ?_⟩
      simp only [evb] at q
      refine Out.bind mono_RO q fun a s1 _ x G1 O1 fr r1 rr q1 => ?_
      obtain ⟨o, d⟩ := a
      cases d with
      | bl c =>
        cases repw_bl (show Rep W G1 (.bl c) x from rr).w
        refine ⟨c, rfl, ?_⟩
        cases c with
        | true => exact ⟨G1, O1, s1, rfl, r1, q1⟩
        | false => exact Out.refl_ok (b := V.bl false) r1 q1 (ro_val rep_bl)
      | _ => exact q1.elim
    | Or =>
      have hb : b = false := by simpa [bopIs] using hb
      subst hb
      refine pe_weak (pe_or h1.pv ih) fun σ H Q q => ?_
      obtain ⟨G, O, s, e, r, q⟩ := q
      refine ⟨G, O, s, e, r, ?_⟩
      simp only [evb] at q
      refine Out.bind mono_RO q fun a s1 _ x G1 O1 fr r1 rr q1 => ?_
      obtain ⟨o, d⟩ := a
      cases d with
      | bl c =>
        cases repw_bl (show Rep W G1 (.bl c) x from rr).w
        refine ⟨c, rfl, ?_⟩
        cases c with
        | true => exact Out.refl_ok (b := V.bl true) r1 q1 (ro_val rep_bl)
        | false => exact ⟨G1, O1, s1, rfl, r1, q1⟩
      | _ => exact q1.elim
theorem z_ite {i : T} {a b : E} {c x y : Expr} {pos : Pos} (hc : TOk W wx X P i c) (ha : EOk W wx X P a x) (hb : EOk W wx X P b y) : PE X (.IfExp c x y pos) (tE W wx (ev P (.ite i a b))) := by
  refine pe_weak (pe_ifExp hc.pt ha.pe hb.pe) fun σ H Q q => ?_
  obtain ⟨G, O, s, e, r, q⟩ := q
  refine ⟨G, O, s, e, r, ?_⟩
  simp only [ev] at q
  refine Out.bind mono_RO q fun a s1 _ x G1 O1 fr r1 rr q1 => ?_
  have rr : a = x := rr
  subst rr
  split at q1
  · rename_i ec
    rw [if_pos ec]
    exact ⟨G1, O1, s1, rfl, r1, q1⟩
  · rename_i ec
    rw [if_neg ec]
    exact ⟨G1, O1, s1, rfl, r1, q1⟩
/-- a name that holds a def, called -/
theorem z_fcallv {i : Nat} {is : List E} {es : List Expr} {g : Expr} {pos : Pos} (C : Cok W nm t k wx N sc ws X) (hg : isVar N sc i g = true) (hne : es ≠ []) (h : EOks W wx X (prog t k) is es) : PE X (.Call g es [] pos) (tE W wx (ev (prog t k) (.callv i is))) := by
  obtain ⟨x, p, rfl, h1, h2, h3, h4⟩ := isVar_of C hg
  refine ⟨fun pins s σ H Q I q => ?_⟩
  obtain ⟨G, O, z, e, r, q⟩ := q
  simp only [ev] at q
  split at q
  · rename_i f es'
    obtain ⟨v, o, s1, _, _, u, rfl, ru⟩ := r.slots i _ es'
    simp only [Rep] at ru
    obtain ⟨a, rfl, hb⟩ := ru
    have hf := C.fa f a hb
    obtain ⟨y, a', fd, ps, g1, g2, g3, g4, g5, g6, g7⟩ := (C.fns f _ (List.getElem?_eq_getElem hf)).ex
    rw [g2] at hb; cases hb
    have hr : Room (2 * k) X.A := C.room.mono (by omega)
    cases h with
    | nil => exact absurd rfl hne
    | cons h1' h2' =>
      rename_i i1 e1 is' es1
      have hh : EOks W wx X (prog t k) (i1 :: is') (e1 :: es1) := .cons h1' h2'
      refine wpAny_Call_Name_kw (thn ((pe_var (pos := p) h1 h2 h3 h4).run pins s σ H (fun v H1 => v = .ref a ∧ H1 = H) I ⟨.ref a, s1, rfl, rfl⟩) fun u s2 ⟨v, H1, I1, r1, q1⟩ => ?_)
      obtain ⟨rfl, rfl⟩ := q1
      cases r1
      have ta : tVs W wx (evs (prog t k) (i1 :: is')) σ H1 (fun vs H2 => spZ W (Phi t k f) vs H2 Q (WE wx σ)) := by
        refine ⟨G, O, z, e, r, ?_⟩
        refine Out.bind mono_RO q fun ds s1 _ vs G1 O1 fr r1 rr q1 => ?_
        exact sp_of_out (f := Phi t k f) r1 rr q1
      refine PySem.W.callWith_K (h₀ := X.base) I.ok.mod.kin g4 (thn (hh.pa.run pos pins s2 σ _ _ I1 ta) fun us s3 ⟨vs, H2, I2, r, q⟩ => ⟨I2.kIn, ?_⟩) (star_of h1'.ns) (noStar h2' _ _)
      exact run_fnS g7 hr g5 (passAt C.tk σ) I2 r q
  · exact q.elim
end
end Z

set_option Elab.async false
set_option linter.all false
set_option maxRecDepth 100000
set_option maxHeartbeats 2000000
set_option autoImplicit false
/-! ZSnd5: targets. -/
namespace Z
open PySem PySem.Spec PyProof.Rows L2
section
variable {W : Wo} {G G' : Gh} {s : Sta} {σ : L2.St} {O : List (Option Addr)}
/-- the other slots stay -/
theorem slots_ne (r : StRep W G s σ O) {i j : Nat} {y x : Slot} {v' : Option V} {o' : Option Addr} (hj : j ≠ i) (hx : (s.σ.set i y)[j]? = some x) : ∃ (v : Option V) (o : Option Addr), (σ.set i v')[j]? = some v ∧ (O.set i o')[j]? = some o ∧ SlotRep W G x v o := by
  rw [List.getElem?_set_ne (Ne.symm hj)] at hx
  obtain ⟨v, o, e1, e2, e3⟩ := r.slots j x hx
  exact ⟨v, o, by rw [List.getElem?_set_ne (Ne.symm hj)]; exact e1, by rw [List.getElem?_set_ne (Ne.symm hj)]; exact e2, e3⟩
/-- a name holds a datum -/
theorem StRep.put (r : StRep W G s σ O) {i : Nat} {d : D} {v : V} (hi : i < s.σ.length) (h : Rep W G d v) : StRep W G { s with σ := s.σ.set i (.sh d) } (σ.set i (some v)) (O.set i none) := by
  refine ⟨?_, ?_, fun j x hx => ?_, r.lenM, r.cells, ?_, r.dom⟩
  · simpa using r.len
  · simpa using r.lenO
  · have hx : (s.σ.set i (.sh d))[j]? = some x := hx
    by_cases hj : j = i
    · subst hj
      rw [List.getElem?_set_self hi] at hx
      cases hx
      exact ⟨some v, none, by rw [List.getElem?_set_self (by rw [r.len]; exact hi)], by rw [List.getElem?_set_self (by rw [r.lenO]; exact hi)], rfl, v, rfl, h⟩
    · exact slots_ne r hj hx
  · obtain ⟨n1, n2, n3⟩ := List.nodup_append.mp r.nd
    exact List.nodup_append.mpr ⟨ow_nodup_set i n1, n2, fun x hx y hy => n3 x (ow_set (a := x) hx) y hy⟩
theorem frm_put {i : Nat} : Frm G (ow O) G (ow (O.set i none)) := ⟨.refl G, fun _ _ e _ _ => e, fun _ h => .inl h, fun a h => .inl (ow_set (a := a) h), fun _ h => .inl h, fun _ x e => ⟨x, e⟩⟩
/-- a name forgotten -/
theorem StRep.drop (r : StRep W G s σ O) {i : Nat} {v : Option V} : StRep W G { s with σ := s.σ.set i .no } (σ.set i v) (O.set i none) := by
  refine ⟨?_, ?_, fun j x hx => ?_, r.lenM, r.cells, ?_, r.dom⟩
  · simpa using r.len
  · simpa using r.lenO
  · have hx : (s.σ.set i .no)[j]? = some x := hx
    by_cases hj : j = i
    · subst hj
      have hi : j < s.σ.length := by
        have := (List.getElem?_eq_some_iff.mp hx).1
        simpa using this
      rw [List.getElem?_set_self hi] at hx
      cases hx
      exact ⟨v, none, by rw [List.getElem?_set_self (by rw [r.len]; exact hi)], by rw [List.getElem?_set_self (by rw [r.lenO]; exact hi)], rfl⟩
    · exact slots_ne r hj hx
  · obtain ⟨n1, n2, n3⟩ := List.nodup_append.mp r.nd
    exact List.nodup_append.mpr ⟨ow_nodup_set i n1, n2, fun x hx y hy => n3 x (ow_set (a := x) hx) y hy⟩
theorem ow_setS {O : List (Option Addr)} {i : Nat} {a b : Addr} (h : b ∈ ow (O.set i (some a))) : b = a ∨ b ∈ ow O := by
  obtain ⟨x, hx, ex⟩ := List.mem_filterMap.mp h
  rcases List.mem_or_eq_of_mem_set hx with hx | hx
  · exact .inr (List.mem_filterMap.mpr ⟨x, hx, ex⟩)
  · subst hx; cases ex; exact .inl rfl
theorem ow_nodup_setS : ∀ {O : List (Option Addr)} (i : Nat) {a : Addr}, a ∉ ow O → (ow O).Nodup → (ow (O.set i (some a))).Nodup
  | [], _, _, _, h => h
  | o :: O, 0, a, ha, h => by
    show (a :: ow O).Nodup
    cases o with
    | none => exact List.nodup_cons.mpr ⟨ha, h⟩
    | some b =>
      have h : (b :: ow O).Nodup := h
      exact List.nodup_cons.mpr ⟨fun z => ha (List.mem_cons_of_mem b z : a ∈ b :: ow O), (List.nodup_cons.mp h).2⟩
  | o :: O, i + 1, a, ha, h => by
    cases o with
    | none => exact ow_nodup_setS (O := O) i ha h
    | some b =>
      have h : (b :: ow O).Nodup := h
      have ha : a ∉ b :: ow O := ha
      obtain ⟨h1, h2⟩ := List.nodup_cons.mp h
      show (b :: ow (O.set i (some a))).Nodup
      refine List.nodup_cons.mpr ⟨fun z => ?_, ow_nodup_setS i (fun z => ha (List.mem_cons_of_mem _ z)) h2⟩
      rcases ow_setS z with e | e
      · exact ha (by rw [e]; exact List.mem_cons_self)
      · exact h1 e
/-- a name holds an object that nobody else knows -/
theorem StRep.putO (r : StRep W G s σ O) {i : Nat} {c : Cell} {a : Addr} (hi : i < s.σ.length) (h : CRep W G c a) (nf : ¬ G.F a) (n1 : a ∉ ow O) (n2 : a ∉ G.M) : StRep W G { s with σ := s.σ.set i (.own c) } (σ.set i (some (.ref a))) (O.set i (some a)) := by
  refine ⟨?_, ?_, fun j x hx => ?_, r.lenM, r.cells, ?_, r.dom⟩
  · simpa using r.len
  · simpa using r.lenO
  · have hx : (s.σ.set i (.own c))[j]? = some x := hx
    by_cases hj : j = i
    · subst hj
      rw [List.getElem?_set_self hi] at hx
      cases hx
      exact ⟨some (.ref a), some a, by rw [List.getElem?_set_self (by rw [r.len]; exact hi)], by rw [List.getElem?_set_self (by rw [r.lenO]; exact hi)], a, rfl, rfl, h, nf⟩
    · exact slots_ne r hj hx
  · obtain ⟨m1, m2, m3⟩ := List.nodup_append.mp r.nd
    refine List.nodup_append.mpr ⟨ow_nodup_setS i n1 m1, m2, fun x hx y hy => ?_⟩
    rcases ow_setS hx with e | e
    · subst e
      exact fun z => n2 (z ▸ hy)
    · exact m3 x e y hy
theorem frm_putO {G0 : Gh} {O0 : List (Option Addr)} {i : Nat} {a : Addr} (f : Frm G0 (ow O0) G (ow O)) (h : fresh G0 O0 a) : Frm G0 (ow O0) G (ow (O.set i (some a))) := by
  refine ⟨f.keep, f.rest, f.fz, fun b hb => ?_, f.mm, f.dm⟩
  rcases ow_setS hb with e | e
  · subst e; exact h
  · exact f.ow b e
end

/-! ### targets -/
/-- a target: the datum stored -/
def tG (W : Wo) (tg : Tg) : TG := fun v σ H Q => ∃ (G : Gh) (O : List (Option Addr)) (s : Sta) (d : D) (z : List Slot), G.H = H ∧ StRep W G s σ O ∧ Rep W G d v ∧ assign tg d s.σ = some z ∧
  ∀ σ' O', StRep W G { s with σ := z } σ' O' → Frm G (ow O) G (ow O') → (∀ j, j ∉ tgv tg → σ'[j]? = σ[j]?) → σ'.length = σ.length → Q σ' H
def tGs (W : Wo) (tgs : List Tg) : TGs := fun vs σ H Q => ∃ (G : Gh) (O : List (Option Addr)) (s : Sta) (ds : List D) (z : List Slot), G.H = H ∧ StRep W G s σ O ∧ Reps W G ds vs ∧ assigns tgs ds s.σ = some z ∧
  ∀ σ' O', StRep W G { s with σ := z } σ' O' → Frm G (ow O) G (ow O') → (∀ j, j ∉ tgvs tgs → σ'[j]? = σ[j]?) → σ'.length = σ.length → Q σ' H
theorem pg_weak {X : Cx} {e : Expr} {t t' : TG} (h : PG X e t) (w : ∀ v σ H Q, t' v σ H Q → t v σ H Q) : PG X e t' := ⟨fun pins s σ H v u Q I r q => h.run pins s σ H v u Q I r (w v σ H Q q)⟩
theorem pgs_weak {X : Cx} {e : List Expr} {t t' : TGs} (h : PGs X e t) (w : ∀ v σ H Q, t' v σ H Q → t v σ H Q) : PGs X e t' := ⟨fun pins s σ H v u Q I r q => h.run pins s σ H v u Q I r (w v σ H Q q)⟩
theorem targ_of {e : Expr} {es : List Expr} {env : Env} (h : nstar e = true) : assignEach (e :: es) env = (false, PySem.assign e env) :: assignEach es env := by
  cases e <;> first
    | rfl
    | cases h
section
variable {W : Wo} {wx : WX} {X : Cx} {nm : Nm} {t : Tbl} {k : Nat} {N : List Str} {sc ws : Scope}
theorem Cok.locW (C : Cok W nm t k wx N sc ws X) {x : Str} (h : locB ws x = true) : Loc X.env.scope x ∧ (X.fn x = true ∨ X.env.scope.names.lookup x = some .local) := C.wr x h
mutual
theorem z_tg (C : Cok W nm t k wx N sc ws X) : ∀ (e : Expr) (tg : Tg), chkTg N ws e tg = true → PG X e (tG W tg)
  | e, .v i, h => by
    cases e with
    | Name x p =>
      simp only [chkTg, Bool.and_eq_true, decide_eq_true_eq] at h
      obtain ⟨h1, h2⟩ := h
      obtain ⟨l1, l2⟩ := C.locW h2
      refine pg_weak (pg_name (by rw [C.eN]; exact C.nd) (by rw [C.eN]; exact h1) l1 l2) fun v σ H Q q => ?_
      obtain ⟨G, O, s, d, z, rfl, r, rd, ea, q⟩ := q
      simp only [assign] at ea
      split at ea
      · rename_i hi
        cases ea
        refine q _ _ (r.put hi rd) frm_put (fun j hj => ?_) (by simp)
        simp only [tgv, List.mem_singleton] at hj
        rw [List.getElem?_set_ne (Ne.symm hj)]
      · cases ea
    | _ => cases h
  | e, .tup ts, h => by
    cases e with
    | Tuple es kk p =>
      have h : chkTgs N ws es ts = true := h
      obtain ⟨hp, hl⟩ := z_tgs C es ts h
      have hn := tgs_len es ts h
      refine pg_weak (pg_tup C.calm hp (n := es.length) (tgs_env es ts h X.env).1 (tgs_env es ts h X.env).2) fun v σ H Q q => ?_
      obtain ⟨G, O, s, d, z, rfl, r, rd, ea, q⟩ := q
      simp only [assign] at ea
      cases d with
      | tup ds =>
        obtain ⟨a, vs, rfl, h1, h2⟩ := repw_tup rd.w
        refine ⟨a, vs, rfl, by rw [← C.eK]; exact h1, ?_, G, O, s, ds, z, rfl, r, h2, ea, q⟩
        rw [h2.len, ← hn]
        exact (assigns_len ea).symm
      | _ => cases ea
    | _ => cases h
theorem z_tgs (C : Cok W nm t k wx N sc ws X) : ∀ (es : List Expr) (ts : List Tg), chkTgs N ws es ts = true → PGs X es (tGs W ts) ∧ True
  | [], [], h => by
    refine ⟨pgs_weak pgs_nil fun v σ H Q q => ?_, trivial⟩
    obtain ⟨G, O, s, ds, z, rfl, r, rd, ea, q⟩ := q
    cases ds with
    | nil =>
      simp only [assigns] at ea
      cases ea
      refine ⟨by simpa only [Reps] using rd, q σ O r (.refl G _) (fun _ _ => rfl) rfl⟩
    | cons d ds => simp only [assigns] at ea; cases ea
  | e :: es, t' :: ts, h => by
    simp only [chkTgs, Bool.and_eq_true] at h
    obtain ⟨⟨h1, h2⟩, h3⟩ := h
    refine ⟨pgs_weak (pgs_cons (z_tg C e t' h1) (z_tgs C es ts h3).1 (by rw [targ_of h2]; rfl)) fun v σ H Q q => ?_, trivial⟩
    obtain ⟨G, O, s, ds, z, rfl, r, rd, ea, q⟩ := q
    cases ds with
    | nil => simp only [assigns] at ea; cases ea
    | cons d ds =>
      simp only [Reps] at rd
      obtain ⟨v, vr, rfl, r1, r2⟩ := rd
      simp only [assigns] at ea
      cases e1 : assign t' d s.σ with
      | none => rw [e1] at ea; cases ea
      | some z1 =>
        rw [e1] at ea
        refine ⟨v, vr, rfl, G, O, s, d, z1, rfl, r, r1, e1, fun σ1 O1 s1 f1 n1 l1 => ?_⟩
        refine ⟨G, O1, { s with σ := z1 }, ds, z, rfl, s1, r2, ea, fun σ2 O2 s2 f2 n2 l2 => ?_⟩
        refine q σ2 O2 s2 (f1.trans f2) (fun j hj => ?_) (l2.trans l1)
        simp only [tgvs, List.mem_append, not_or] at hj
        rw [n2 j hj.2, n1 j hj.1]
  | [], _ :: _, h => by cases h
  | _ :: _, [], h => by cases h
theorem tgs_len : ∀ (es : List Expr) (ts : List Tg), chkTgs N ws es ts = true → ts.length = es.length
  | [], [], h => rfl
  | e :: es, t' :: ts, h => by
    simp only [chkTgs, Bool.and_eq_true] at h
    simp only [List.length_cons, tgs_len es ts h.2]
  | [], _ :: _, h => by cases h
  | _ :: _, [], h => by cases h
theorem tgs_env : ∀ (es : List Expr) (ts : List Tg), chkTgs N ws es ts = true → ∀ env, (assignEach es env).length = es.length ∧ (assignEach es env).findIdx? (·.1) = none
  | [], [], h, env => ⟨rfl, rfl⟩
  | e :: es, t' :: ts, h, env => by
    simp only [chkTgs, Bool.and_eq_true] at h
    obtain ⟨h1, h2⟩ := tgs_env es ts h.2 env
    rw [targ_of h.1.2]
    refine ⟨by simp [h1], ?_⟩
    simp [List.findIdx?_cons, h2]
  | [], _ :: _, h, _ => by cases h
  | _ :: _, [], h, _ => by cases h
theorem assigns_len : ∀ {ts : List Tg} {ds : List D} {σ z : List Slot}, assigns ts ds σ = some z → ts.length = ds.length
  | [], [], _, _, h => rfl
  | t' :: ts, d :: ds, σ, z, h => by
    simp only [assigns] at h
    split at h
    · simp only [List.length_cons, assigns_len h]
    · cases h
  | [], _ :: _, _, _, h => by simp [assigns] at h
  | _ :: _, [], _, _, h => by simp [assigns] at h
end
end
end Z

set_option Elab.async false
set_option linter.all false
set_option maxRecDepth 100000
set_option maxHeartbeats 2000000
set_option autoImplicit false
/-! ZSnd6: what a loop walks. -/
namespace Z
open PySem PySem.Spec PyProof.Rows L2
structure JOk (W : Wo) (G : Gh) (ds : List D) (J : L2.It) : Prop where
  go : ∀ (G' : Gh) (i : Nat), Keep G G' → i < ds.length → J.go i G'.H
  yld : ∀ (G' : Gh) (i : Nat) (d : D) (x : V) (H' : Hp), Keep G G' → Dom G' → ds[i]? = some d → J.yld i G'.H x H' → ∃ G2 : Gh, G2.H = H' ∧ Ext G' G2 ∧ Rep W G2 d x
  stop : ∀ (G' : Gh) (i : Nat), Keep G G' → ds.length ≤ i → J.stop i G'.H
def RJ (W : Wo) (G : Gh) (O : List (Option Addr)) (G' : Gh) (O' : List (Option Addr)) (_ : Sta) (ds : List D) (J : L2.It) : Prop := JOk W G' ds J
theorem mono_RJ {W : Wo} : Mono (RJ W) := fun _ _ _ _ _ _ _ _ _ _ h => h
abbrev tI (W : Wo) (wx : WX) (f : Sta → Res (List D)) : TI := tZ W wx (fun _ => RJ W) f
section
variable {W : Wo} {G : Gh} {K : PySem.W.Frag}
theorem j_list {a : Addr} {ds : List D} {vs : List V} (hf : G.F a) (hH : G.H a = some (.lst vs)) (r : Reps W G ds vs) : JOk W G ds (Itl K a) := by
  have st : ∀ G', Keep G G' → SqL K G'.H a vs := fun G' k => .inl (.inl ((k.fz a hf).2.trans hH))
  refine ⟨fun G' i k hi => ?_, fun G' i d x H' k dm e y => ?_, fun G' i k hi => ⟨vs, st G' k, by rw [r.len]; exact hi⟩⟩
  · exact ⟨vs, vs[i]'(by rw [r.len]; exact hi), st G' k, List.getElem?_eq_getElem _⟩
  · obtain ⟨rfl, y⟩ := y
    have q := y vs (st G' k)
    obtain ⟨v, h1, h2⟩ := r.get e
    rw [q] at h1; cases h1
    exact ⟨G', rfl, .refl G', Rep.keep k d x h2⟩
theorem j_tup {a : Addr} {ds : List D} {vs : List V} (hH : SqT K G.H a vs) (hK : W.K = K) (r : Reps W G ds vs) : JOk W G ds (Itt K a) := by
  subst hK
  have st : ∀ G', Keep G G' → SqT W.K G'.H a vs := fun G' k => sqT_keep k hH
  refine ⟨fun G' i k hi => ?_, fun G' i d x H' k dm e y => ?_, fun G' i k hi => ⟨vs, st G' k, by rw [r.len]; exact hi⟩⟩
  · exact ⟨vs, vs[i]'(by rw [r.len]; exact hi), st G' k, List.getElem?_eq_getElem _⟩
  · obtain ⟨rfl, y⟩ := y
    have q := y vs (st G' k)
    obtain ⟨v, h1, h2⟩ := r.get e
    rw [q] at h1; cases h1
    exact ⟨G', rfl, .refl G', Rep.keep k d x h2⟩
theorem j_str {x : List Nat} (h : TxtOk x) : JOk W G (x.map fun c => .str [c]) (Its (toS x)) := by
  have sz : (toS x).cps.size = x.length := by simp [toS]
  refine ⟨fun G' i k hi => ?_, fun G' i d v H' k dm e y => ?_, fun G' i k hi => ?_⟩
  · show i < (toS x).cps.size
    rw [sz]; simpa using hi
  · obtain ⟨rfl, c, hc, rfl⟩ := y
    have hc : x[i]? = some c := by simpa [toS] using hc
    rw [List.getElem?_map, hc] at e
    cases e
    refine ⟨G', rfl, .refl G', rep_str ⟨by show 1 ≤ LIM; decide, fun c' hc' => ?_⟩⟩
    rw [List.mem_singleton] at hc'
    subst hc'
    exact h.2 _ (List.mem_of_getElem? hc)
  · show (toS x).cps.size ≤ i
    rw [sz]; simpa using hi
theorem range_len (lo : Int) : ∀ n, (rangeL lo n).length = n
  | 0 => rfl
  | n + 1 => by simp only [rangeL, List.length_cons, range_len (lo + 1) n]
theorem range_get : ∀ (n : Nat) (lo : Int) (i : Nat) (d : D), (rangeL lo n)[i]? = some d → d = .int (lo + i)
  | 0, _, _, _, h => by simp [rangeL] at h
  | n + 1, lo, 0, d, h => by
    simp [rangeL] at h
    simp [← h]
  | n + 1, lo, i + 1, d, h => by
    have := range_get n (lo + 1) i d (by simpa [rangeL] using h)
    rw [this]
    congr 1
    omega
theorem j_range {lo : Int} {n : Nat} : JOk W G (rangeL lo n) (Itr lo n) := by
  refine ⟨fun G' i k hi => ?_, fun G' i d v H' k dm e y => ?_, fun G' i k hi => ?_⟩
  · show i < n
    rw [range_len] at hi; exact hi
  · obtain ⟨rfl, rfl⟩ := y
    have := range_get n lo i d e
    subst this
    exact ⟨G', rfl, .refl G', rep_int⟩
  · show n ≤ i
    rw [range_len] at hi; exact hi
theorem rangeS_len (c : Int) : ∀ (n : Nat) (lo : Int), (rangeS lo c n).length = n
  | 0, _ => rfl
  | n + 1, lo => by simp only [rangeS, List.length_cons, rangeS_len c n]
theorem rangeS_get (c : Int) : ∀ (n : Nat) (lo : Int) (i : Nat) (d : D), (rangeS lo c n)[i]? = some d → d = .int (lo + i * c)
  | 0, _, _, _, h => by simp [rangeS] at h
  | n + 1, lo, 0, d, h => by
    simp [rangeS] at h
    simp [← h]
  | n + 1, lo, i + 1, d, h => by
    have := rangeS_get c n (lo + c) i d (by simpa [rangeS] using h)
    rw [this]
    congr 1
    have : ((i + 1 : Nat) : Int) * c = i * c + c := by rw [Int.natCast_succ, Int.add_mul, Int.one_mul]
    omega
theorem j_rangeC {lo c : Int} {n : Nat} : JOk W G (rangeS lo c n) (Itc lo c n) := by
  refine ⟨fun G' i k hi => ?_, fun G' i d v H' k dm e y => ?_, fun G' i k hi => ?_⟩
  · show i < n
    rw [rangeS_len] at hi; exact hi
  · obtain ⟨rfl, rfl⟩ := y
    have := rangeS_get c n lo i d e
    subst this
    exact ⟨G', rfl, .refl G', rep_int⟩
  · show n ≤ i
    rw [rangeS_len] at hi; exact hi
theorem rgc_of {a b c : Int} (h1 : -(2 ^ 62) ≤ a) (h2 : a < 2 ^ 62) (h3 : -(2 ^ 62) ≤ b) (h4 : b < 2 ^ 62) (h5 : 0 < c) (h6 : c < 1073741824) : RgC a b c (stepsN a b c) := by
  have e : Builtin.Range.rangeSize a b c = (stepsN a b c : Nat) := by
    unfold Builtin.Range.rangeSize stepsN
    rw [if_pos h5]
    split
    · rename_i hab
      have : 0 ≤ (b - a - 1) / c := Int.ediv_nonneg (by omega) (by omega)
      omega
    · rfl
  have le : (stepsN a b c : Int) ≤ if a < b then b - a else 0 := by
    unfold stepsN
    split
    · rename_i hab
      have z1 : 0 ≤ (b - a - 1) / c := Int.ediv_nonneg (by omega) (by omega)
      have z2 : (b - a - 1) / c ≤ b - a - 1 := Int.ediv_le_self _ (by omega)
      omega
    · exact Int.le_refl _
  refine ⟨by omega, by omega, ?_, e⟩
  unfold Builtin.Range.small
  rw [e]
  have n0 : 0 ≤ (stepsN a b c : Int) := Int.natCast_nonneg _
  simp only [Builtin.Range.rangeFitsLong, Bool.and_eq_true, Bool.or_eq_true, decide_eq_true_eq, beq_iff_eq, show c > 0 from h5, if_true]
  split at le <;> omega
theorem enum_get : ∀ (ds : List D) (k : Int) (i : Nat) (e : D), (enumD k ds)[i]? = some e → ∃ d, ds[i]? = some d ∧ e = .tup [.int (k + i), d]
  | [], _, _, _, h => by simp [enumD] at h
  | d :: ds, k, 0, e, h => by
    simp [enumD] at h
    exact ⟨d, rfl, by simp [← h]⟩
  | d :: ds, k, i + 1, e, h => by
    obtain ⟨x, h1, h2⟩ := enum_get ds (k + 1) i e (by simpa [enumD] using h)
    refine ⟨x, by simpa using h1, ?_⟩
    rw [h2]
    have : k + 1 + (i : Int) = k + ((i + 1 : Nat) : Int) := by omega
    rw [this]
theorem enum_len : ∀ (ds : List D) (k : Int), (enumD k ds).length = ds.length
  | [], _ => rfl
  | d :: ds, k => by simp only [enumD, List.length_cons, enum_len ds]
theorem ext_tup {G' : Gh} {T : Addr} {o : HO} (h : G'.H T = none) : Ext G' ⟨upd G'.H T o, G'.F, G'.M⟩ := ext_new h
theorem rep_newT {G' : Gh} {T : Addr} {ds : List D} {vs : List V} (dom : Dom G') (h : G'.H T = none) (r : Reps W G' ds vs) : Rep W ⟨upd G'.H T (.tup vs), G'.F, G'.M⟩ (.tup ds) (.ref T) := by
  simp only [Rep]
  exact ⟨T, vs, rfl, .inl (.inl upd_same), Reps.keep ((ext_tup h).keep (W := W) dom) ds vs r⟩
theorem j_enum {a : Addr} {ds : List D} {vs : List V} (hf : G.F a) (hH : G.H a = some (.lst vs)) (r : Reps W G ds vs) : JOk W G (enumD 0 ds) (Ite K a) := by
  have st : ∀ G', Keep G G' → SqL K G'.H a vs := fun G' k => .inl (.inl ((k.fz a hf).2.trans hH))
  refine ⟨fun G' i k hi => ?_, fun G' i d x H' k dm e y => ?_, fun G' i k hi => ⟨vs, st G' k, by rw [r.len]; rw [enum_len] at hi; exact hi⟩⟩
  · rw [enum_len] at hi
    exact ⟨vs, vs[i]'(by rw [r.len]; exact hi), st G' k, List.getElem?_eq_getElem _⟩
  · obtain ⟨T, u, rfl, nT, rfl, y⟩ := y
    have q := y vs (st G' k)
    obtain ⟨d', e1, rfl⟩ := enum_get ds 0 i d e
    obtain ⟨v, h1, h2⟩ := r.get e1
    rw [q] at h1; cases h1
    refine ⟨_, rfl, ext_tup nT, rep_newT dm nT ?_⟩
    simp only [Reps]
    exact ⟨_, _, rfl, by rw [Int.zero_add]; exact rep_int, _, _, rfl, Rep.keep k _ _ h2, rfl⟩
theorem zip_get : ∀ (xs ys : List D) (i : Nat) (e : D), (zipD xs ys)[i]? = some e → ∃ x y, xs[i]? = some x ∧ ys[i]? = some y ∧ e = .tup [x, y]
  | x :: xs, y :: ys, 0, e, h => by
    simp [zipD] at h
    exact ⟨x, y, rfl, rfl, h.symm⟩
  | x :: xs, y :: ys, i + 1, e, h => by
    obtain ⟨a, b, h1, h2, h3⟩ := zip_get xs ys i e (by simpa [zipD] using h)
    exact ⟨a, b, by simpa using h1, by simpa using h2, h3⟩
  | [], _, _, _, h => by simp [zipD] at h
  | _ :: _, [], _, _, h => by simp [zipD] at h
theorem zip_len : ∀ (xs ys : List D), (zipD xs ys).length = min xs.length ys.length
  | x :: xs, y :: ys => by simp only [zipD, List.length_cons, zip_len xs ys]; omega
  | [], _ => by simp [zipD]
  | _ :: _, [] => by simp [zipD]
theorem j_zipL {a b : Addr} {xs ys : List D} {vs us : List V} (fa : G.F a) (fb : G.F b) (ha : G.H a = some (.lst vs)) (hb : G.H b = some (.lst us)) (ra : Reps W G xs vs) (rb : Reps W G ys us) : JOk W G (zipD xs ys) (Itz K a b) := by
  have sa : ∀ G', Keep G G' → SqL K G'.H a vs := fun G' k => .inl (.inl ((k.fz a fa).2.trans ha))
  have sb : ∀ G', Keep G G' → SqL K G'.H b us := fun G' k => .inl (.inl ((k.fz b fb).2.trans hb))
  refine ⟨fun G' i k hi => ?_, fun G' i d x H' k dm e y => ?_, fun G' i k hi => ?_⟩
  · rw [zip_len] at hi
    exact ⟨vs, us, vs[i]'(by rw [ra.len]; omega), us[i]'(by rw [rb.len]; omega), sa G' k, sb G' k, List.getElem?_eq_getElem _, List.getElem?_eq_getElem _⟩
  · obtain ⟨T, u, w, rfl, nT, rfl, y1, y2⟩ := y
    have q1 := y1 vs (sa G' k)
    have q2 := y2 us (sb G' k)
    obtain ⟨d1, d2, e1, e2, rfl⟩ := zip_get xs ys i d e
    obtain ⟨v, h1, h2⟩ := ra.get e1
    obtain ⟨v', h1', h2'⟩ := rb.get e2
    rw [q1] at h1; cases h1
    rw [q2] at h1'; cases h1'
    refine ⟨_, rfl, ext_tup nT, rep_newT dm nT ?_⟩
    simp only [Reps]
    exact ⟨_, _, rfl, Rep.keep k _ _ h2, _, _, rfl, Rep.keep k _ _ h2', rfl⟩
  · rw [zip_len] at hi
    refine ⟨vs, us, sa G' k, sb G' k, ?_⟩
    rw [ra.len, rb.len]
    omega
theorem j_zipT {a b : Addr} {xs ys : List D} {vs us : List V} (hK : W.K = K) (ha : SqT K G.H a vs) (hb : SqT K G.H b us) (ra : Reps W G xs vs) (rb : Reps W G ys us) : JOk W G (zipD xs ys) (RZ.ItzT K a b) := by
  subst hK
  have sa : ∀ G', Keep G G' → SqT W.K G'.H a vs := fun G' k => sqT_keep k ha
  have sb : ∀ G', Keep G G' → SqT W.K G'.H b us := fun G' k => sqT_keep k hb
  refine ⟨fun G' i k hi => ?_, fun G' i d x H' k dm e y => ?_, fun G' i k hi => ?_⟩
  · rw [zip_len] at hi
    exact ⟨vs, us, vs[i]'(by rw [ra.len]; omega), us[i]'(by rw [rb.len]; omega), sa G' k, sb G' k, List.getElem?_eq_getElem _, List.getElem?_eq_getElem _⟩
  · obtain ⟨T, u, w, rfl, nT, rfl, y1, y2⟩ := y
    have q1 := y1 vs (sa G' k)
    have q2 := y2 us (sb G' k)
    obtain ⟨d1, d2, e1, e2, rfl⟩ := zip_get xs ys i d e
    obtain ⟨v, h1, h2⟩ := ra.get e1
    obtain ⟨v', h1', h2'⟩ := rb.get e2
    rw [q1] at h1; cases h1
    rw [q2] at h1'; cases h1'
    refine ⟨_, rfl, ext_tup nT, rep_newT dm nT ?_⟩
    simp only [Reps]
    exact ⟨_, _, rfl, Rep.keep k _ _ h2, _, _, rfl, Rep.keep k _ _ h2', rfl⟩
  · rw [zip_len] at hi
    refine ⟨vs, us, sa G' k, sb G' k, ?_⟩
    rw [ra.len, rb.len]
    omega
end

/-! ### the iterators -/
section
variable {W : Wo} {wx : WX} {X : Cx} {P : Prog} {nm : Nm} {t : Tbl} {k : Nat} {N : List Str} {sc ws : Scope} {tg : Expr}
theorem pi_weak {e : Expr} {t t' : TI} (h : PI X tg e t) (w : ∀ σ H Q, t' σ H Q → t σ H Q) : PI X tg e t' := ⟨fun pins s σ H Q I q => h.run pins s σ H Q I (w σ H Q q)⟩
theorem z_iseq (C : Cok W nm t k wx N sc ws X) {i : E} {e : Expr} (h : EOk W wx X P i e) : PI X tg e (tI W wx (evit P (.seq i))) := by
  refine ⟨fun pins s σ H R I hw => ?_⟩
  obtain ⟨G, O, z, e1, r, q⟩ := hw
  have q : tV W wx (ev P i) σ H (fun v H1 => ∃ (G1 : Gh) (ds : List D), G1.H = H1 ∧ (∃ d, Rep W G1 d v ∧ iterD d = some ds) ∧ ∀ J, JOk W G1 ds J → R J H1) := by
    refine ⟨G, O, z, e1, r, ?_⟩
    simp only [evit] at q
    refine Out.bind mono_RJ q fun a s1 _ x G1 O1 fr r1 rr q1 => ?_
    cases e2 : iterD a.2 with
    | none => rw [e2] at q1; exact q1.elim
    | some ds =>
      rw [e2] at q1
      exact ⟨G1, ds, rfl, ⟨a.2, rr, e2⟩, fun J hJ => Out.refl_ok (b := J) r1 q1 hJ⟩
  refine thn (h.pv.run pins s σ H _ I q) fun v s1 ⟨x, H1, I1, r1, q1⟩ => ?_
  obtain ⟨G1, ds, rfl, ⟨d, rd, ed⟩, q1⟩ := q1
  cases d with
  | lst es =>
    cases ed
    simp only [Rep] at rd
    obtain ⟨a, vs, rfl, hf, hH, rs⟩ := rd
    cases r1
    obtain ⟨its, rv, p, hz⟩ := I1.list (a := a) (.inl (.inl hH))
    refine wpAny_pyIter_list p.isList ?_
    refine ⟨s1.heap.objs.size, [s1.heap.objs.size], _, _, G1.H, rfl, I1.kept (t' := s1.toks) fun b o e => Heap.get?_push_of_some _ e, turn_list a _, ⟨_, Heap.get?_push_size _ rfl, rfl, rfl⟩, fun b hb => ?_, q1 _ (j_list hf hH rs)⟩
    have e : b = s1.heap.objs.size := by simpa using hb
    subst e
    exact I1.fpOk (Nat.le_refl _) (I1.hok.fresh (Nat.le_refl _))
  | tup es =>
    cases ed
    obtain ⟨a, vs, rfl, hH, rs⟩ := repw_tup rd.w
    cases r1
    have hH' : SqT X.K G1.H a vs := C.eK ▸ hH
    obtain ⟨its, rv, p, hz⟩ := I1.tuple hH'
    refine wpAny_pyIter_tuple (show s1.heap.IsTuple a its.toArray from p) ?_
    refine ⟨s1.heap.objs.size, [s1.heap.objs.size], _, _, G1.H, rfl, I1.kept (t' := s1.toks) fun b o e => Heap.get?_push_of_some _ e, turn_tuple a _, ⟨_, Heap.get?_push_size _ rfl, rfl, rfl⟩, fun b hb => ?_, q1 _ (j_tup hH' C.eK rs)⟩
    have e : b = s1.heap.objs.size := by simpa using hb
    subst e
    exact I1.fpOk (Nat.le_refl _) (I1.hok.fresh (Nat.le_refl _))
  | str y =>
    cases ed
    obtain ⟨rfl, ty⟩ := repw_str rd.w
    obtain ⟨t, rfl⟩ := r1
    have q := q1 _ (j_str ty)
    cases ha : (toS y).cps.all (· < 128)
    · exact wpAny_pyIter_wide ha (pi_one (tk := s1.toks) I1 _ (turn_str _ (toS y) t "str_iterator" (.inr rfl)) ⟨_, Heap.get?_push_size _ rfl, rfl, rfl⟩ q)
    · exact wpAny_pyIter_ascii ha (pi_one (tk := s1.toks) I1 _ (turn_str _ (toS y) t "str_ascii_iterator" (.inl rfl)) ⟨_, Heap.get?_push_size _ rfl, rfl, rfl⟩ q)
  | _ => cases ed
theorem rgShape_of (C : Cok W nm t k wx N sc ws X) {n : String} (hn : n ∈ bltNames) {e : Expr} {es : List Expr} (h : rgShape sc n e = some es) : ∃ p pos, e = .Call (.Name (Str.ofString n) p) es [] pos ∧ Gl X (Str.ofString n) ∧ X.mg (Str.ofString n) = none := by
  unfold rgShape at h
  split at h
  · split at h
    · rename_i f es' pos hb
      cases h
      obtain ⟨q, rfl, hg, hm⟩ := C.blt1 hb hn
      exact ⟨q, pos, rfl, hg, hm⟩
    · cases h
  · cases h
theorem evs_len : ∀ {is : List E} {s s1 : Sta} {ds : List D}, evs P is s = .ok ds s1 → ds.length = is.length
  | [], s, s1, ds, h => by cases h; rfl
  | i :: is, s, s1, ds, h => by
    simp only [evs] at h
    cases e : ev P i s with
    | stuck => rw [e] at h; cases h
    | exn y s2 => rw [e] at h; cases h
    | ok a s2 =>
      rw [e] at h
      simp only [Res.bind] at h
      cases e2 : evs P is s2 with
      | stuck => rw [e2] at h; cases h
      | exn y s3 => rw [e2] at h; cases h
      | ok b s3 =>
        rw [e2] at h
        cases h
        simp only [List.length_cons, evs_len e2]
theorem z_irng (C : Cok W nm t k wx N sc ws X) {e : Expr} {es : List Expr} {is : List E} (hs : rgShape sc "range" e = some es) (h : EOks W wx X P is es) (hl2 : es.length ≤ 3) : PI X tg e (tI W wx (evit P (.rng is))) := by
  obtain ⟨p, pos, rfl, hg, hm⟩ := rgShape_of C (by decide) hs
  have L : RLIM = 2 ^ 62 := by decide
  have main : ∀ σ H Q, tI W wx (evit P (.rng is)) σ H Q → tVs W wx (evs P is) σ H (fun vs H1 => ∃ ds ns, rangeD ds = some ns ∧ (∃ G1 : Gh, G1.H = H1 ∧ Reps W G1 ds vs ∧ ∀ J, JOk W G1 ns J → Q J H1)) := fun σ H Q q => by
    obtain ⟨G, O, z, e1, r, q⟩ := q
    refine ⟨G, O, z, e1, r, ?_⟩
    simp only [evit] at q
    refine Out.bind mono_RJ q fun ds s1 _ vs G1 O1 fr r1 rr q1 => ?_
    cases e2 : rangeD ds with
    | none => rw [e2] at q1; exact q1.elim
    | some ns =>
      rw [e2] at q1
      exact ⟨ds, ns, e2, G1, rfl, rr, fun J hJ => Out.refl_ok (b := J) r1 q1 hJ⟩
  cases h with
  | nil =>
    refine ⟨fun pins s σ H R I hw => ?_⟩
    obtain ⟨G, O, z, rfl, r, q⟩ := hw
    exact q.elim
  | cons h1 h2 =>
    cases h2 with
    | nil =>
      rename_i i a
      refine pi_weak (pi_range1 (ta := tVs W wx (evs P [i])) hg hm (EOks.cons h1 .nil).pa (by rw [star_of h1.ns]; rfl)) fun σ H Q q => ?_
      obtain ⟨G, O, z, e1, r, q⟩ := main σ H Q q
      refine ⟨G, O, z, e1, r, ?_⟩
      cases e3 : evs P [i] z with
      | stuck => rw [e3] at q; exact q
      | exn y s1 => rw [e3] at q; exact q
      | ok ds s1 =>
        rw [e3] at q
        intro vs G' O' fr sr rr
        obtain ⟨ds', ns, e4, G1, e5, rr', k'⟩ := q vs G' O' fr sr rr
        match ds', e4, rr' with
        | [.int j], e4, rr' =>
          simp only [rangeD] at e4
          split at e4
          · rename_i hj
            cases e4
            obtain ⟨v, rfl, rv⟩ := reps_one rr'
            cases repw_int rv.w
            exact ⟨j, rfl, by omega, by omega, k' _ j_range⟩
          · cases e4
        | [.int j, .int l], e4, rr' =>
          exfalso
          obtain ⟨v, u, rfl, _, _⟩ := reps_two rr'
          have l1 : ds.length = 1 := evs_len e3
          have l2 := Reps.len (show Reps W G' ds [v, u] from rr)
          simp at l2; omega
        | [.int j, .int l, .int m], e4, rr' =>
          exfalso
          have l1 : ds.length = 1 := evs_len e3
          have l2 := Reps.len (show Reps W G' ds vs from rr)
          have l3 := Reps.len rr'
          simp at l3; omega
    | cons h2 h3 =>
      cases h3 with
      | nil =>
        rename_i i a j b
        refine pi_weak (pi_range2 (ta := tVs W wx (evs P [i, j])) hg hm (EOks.cons h1 (.cons h2 .nil)).pa (by rw [star_of h1.ns, star_of h2.ns]; rfl) (by rw [star_of h2.ns]; rfl)) fun σ H Q q => ?_
        obtain ⟨G, O, z, e1, r, q⟩ := main σ H Q q
        refine ⟨G, O, z, e1, r, ?_⟩
        cases e3 : evs P [i, j] z with
        | stuck => rw [e3] at q; exact q
        | exn y s1 => rw [e3] at q; exact q
        | ok ds s1 =>
          rw [e3] at q
          intro vs G' O' fr sr rr
          obtain ⟨ds', ns, e4, G1, e5, rr', k'⟩ := q vs G' O' fr sr rr
          match ds', e4, rr' with
          | [.int j'], e4, rr' =>
            exfalso
            obtain ⟨v, rfl, _⟩ := reps_one rr'
            have l1 : ds.length = 2 := evs_len e3
            have l2 := Reps.len (show Reps W G' ds [v] from rr)
            simp at l2; omega
          | [.int j', .int l], e4, rr' =>
            simp only [rangeD] at e4
            split at e4
            · rename_i hj
              cases e4
              obtain ⟨v, u, rfl, rv, ru⟩ := reps_two rr'
              cases repw_int rv.w
              cases repw_int ru.w
              exact ⟨j', l, rfl, by omega, k' _ j_range⟩
            · cases e4
          | [.int j', .int l, .int m], e4, rr' =>
            exfalso
            have l1 : ds.length = 2 := evs_len e3
            have l2 := Reps.len (show Reps W G' ds vs from rr)
            have l3 := Reps.len rr'
            simp at l3; omega
      | cons h3 h4 =>
        cases h4 with
        | cons h4 h5 => simp at hl2
        | nil =>
          rename_i i a j b l c
          refine pi_weak (pi_range3 (ta := tVs W wx (evs P [i, j, l])) hg hm (EOks.cons h1 (.cons h2 (.cons h3 .nil))).pa (star_of h1.ns) (noStar (EOks.cons h2 (.cons h3 .nil)) _ _)) fun σ H Q q => ?_
          obtain ⟨G, O, z, e1, r, q⟩ := main σ H Q q
          refine ⟨G, O, z, e1, r, ?_⟩
          cases e3 : evs P [i, j, l] z with
          | stuck => rw [e3] at q; exact q
          | exn y s1 => rw [e3] at q; exact q
          | ok ds s1 =>
            rw [e3] at q
            intro vs G' O' fr sr rr
            obtain ⟨ds', ns, e4, G1, e5, rr', k'⟩ := q vs G' O' fr sr rr
            have l1 : ds.length = 3 := evs_len e3
            have l2 := Reps.len (show Reps W G' ds vs from rr)
            have l3 := Reps.len rr'
            match ds', e4, rr', l3 with
            | [.int x, .int y, .int u], e4, rr', _ =>
              simp only [rangeD] at e4
              split at e4
              · rename_i hj
                cases e4
                simp only [Reps] at rr'
                obtain ⟨v, _, rfl, rv, v2, _, rfl, rv2, v3, _, rfl, rv3, rfl⟩ := rr'
                cases repw_int rv.w
                cases repw_int rv2.w
                cases repw_int rv3.w
                exact ⟨x, y, u, _, rfl, rgc_of (by omega) (by omega) (by omega) (by omega) hj.2.2.2.2.1 hj.2.2.2.2.2, k' _ j_rangeC⟩
              · cases e4
            | [.int x], _, _, l3 => simp at l3; omega
            | [.int x, .int y], _, _, l3 => simp at l3; omega
theorem z_ienum (C : Cok W nm t k wx N sc ws X) {e : Expr} {a : Expr} {i : E} (hs : rgShape sc "enumerate" e = some [a]) (h : EOk W wx X P i a) (ht : ∃ elts kk pos, tg = .Tuple elts kk pos) : PI X tg e (tI W wx (evit P (.enum i))) := by
  obtain ⟨p, pos, rfl, hg, hm⟩ := rgShape_of C (by decide) hs
  obtain ⟨elts, kk, tpos, rfl⟩ := ht
  refine pi_weak (pi_enum (ta := tCons (tV W wx (ev P i)) tNil) hg hm (pa_cons h.pv pa_nil (star_of h.ns)) (by rw [star_of h.ns]; rfl)) fun σ H Q q => ?_
  obtain ⟨G, O, z, e1, r, q⟩ := q
  refine ⟨G, O, z, e1, r, ?_⟩
  simp only [evit] at q
  refine Out.bind mono_RJ q fun a s1 _ x G1 O1 fr r1 rr q1 => ?_
  obtain ⟨o, d⟩ := a
  cases d with
  | lst ds =>
    obtain ⟨a, vs, rfl, hf, hH, rs⟩ := (show Rep W G1 (.lst ds) x from rr)
    exact ⟨a, vs, rfl, .inl (.inl hH), Out.refl_ok r1 q1 (j_enum hf hH rs)⟩
  | _ => exact q1.elim
theorem z_izip (C : Cok W nm t k wx N sc ws X) {e : Expr} {a b : Expr} {i j : E} (hs : rgShape sc "zip" e = some [a, b]) (h : EOk W wx X P i a) (h' : EOk W wx X P j b) (ht : ∃ elts kk pos, tg = .Tuple elts kk pos) : PI X tg e (tI W wx (evit P (.zip i j))) := by
  obtain ⟨p, pos, rfl, hg, hm⟩ := rgShape_of C (by decide) hs
  obtain ⟨elts, kk, tpos, rfl⟩ := ht
  refine pi_weak (RZ.pi_zipA (ta := tCons (tV W wx (ev P i)) (tCons (tV W wx (ev P j)) tNil)) hg hm (pa_cons h.pv (pa_cons h'.pv pa_nil (star_of h'.ns)) (star_of h.ns)) (by rw [star_of h.ns]) (by rw [star_of h'.ns]; rfl)) fun σ H Q q => ?_
  obtain ⟨G, O, z, e1, r, q⟩ := q
  refine ⟨G, O, z, e1, r, ?_⟩
  simp only [evit] at q
  refine Out.bind mono_RJ q fun a s1 _ x G1 O1 fr r1 rr q1 => ⟨G1, O1, s1, rfl, r1, ?_⟩
  refine Out.bind mono_RJ q1 fun b s2 _ y G2 O2 fr2 r2 rr2 q2 => ?_
  obtain ⟨o, d⟩ := a
  obtain ⟨o', d'⟩ := b
  have rr : Rep W G2 d x := Rep.keep fr2.keep _ _ rr
  have rr2 : Rep W G2 d' y := rr2
  cases d with
  | lst xs =>
    cases d' with
    | lst ys =>
      obtain ⟨a, vs, rfl, hf, hH, rs⟩ := rr
      obtain ⟨b, us, rfl, hf', hH', rs'⟩ := rr2
      exact ⟨a, b, vs, us, rfl, .inl ⟨.inl (.inl hH), .inl (.inl hH'), Out.refl_ok r2 q2 (j_zipL hf hf' hH hH' rs rs')⟩⟩
    | _ => exact q2.elim
  | tup xs =>
    cases d' with
    | tup ys =>
      obtain ⟨a, vs, rfl, hH, rs⟩ := repw_tup rr.w
      obtain ⟨b, us, rfl, hH', rs'⟩ := repw_tup rr2.w
      have hH : SqT X.K G2.H a vs := C.eK ▸ hH
      have hH' : SqT X.K G2.H b us := C.eK ▸ hH'
      exact ⟨a, b, vs, us, rfl, .inr ⟨hH, hH', Out.refl_ok r2 q2 (j_zipT C.eK hH hH' rs rs')⟩⟩
    | _ => exact q2.elim
  | _ => exact q2.elim
end
end Z

set_option Elab.async false
set_option linter.all false
set_option maxRecDepth 100000
set_option maxHeartbeats 2000000
set_option autoImplicit false
/-! ZSnd7: comprehensions. -/
namespace Z
open PySem PySem.Spec PyProof.Rows L2
/-! ### an object at the side -/
structure Side (G : Gh) (O : List (Option Addr)) (D : Addr) (o : HO) : Prop where
  h : G.H D = some o
  f : ¬ G.F D
  o : D ∉ ow O
  m : D ∉ G.M
section
variable {W : Wo} {G G' G1 : Gh} {s : Sta} {σ : L2.St} {O O' O1 : List (Option Addr)} {D : Addr} {o o' : HO}
theorem Side.frm (h : Side G O D o) (f : Frm G (ow O) G' (ow O')) : Side G' O' D o := by
  refine ⟨f.rest D o h.h h.o h.m, fun z => ?_, fun z => ?_, fun z => ?_⟩
  · rcases f.fz D z with z | z | z
    · exact h.f z
    · exact h.o z
    · rw [h.h] at z; cases z
  · rcases f.ow D z with z | z
    · exact h.o z
    · rw [h.h] at z; cases z
  · rcases f.mm D z with z | z | z
    · exact h.m z
    · exact h.o z
    · rw [h.h] at z; cases z
theorem Side.keep (h : Side G O D o) (hi : imm o = false) : Keep G ⟨upd G.H D o', G.F, G.M⟩ := by
  refine ⟨fun b x e i => ?_, fun b f => ⟨f, ?_⟩, fun _ _ e => e⟩
  · show upd G.H D o' b = some x
    rw [upd_ne]
    · exact e
    · rintro rfl
      rw [h.h] at e; cases e
      rw [hi] at i; cases i
  · show upd G.H D o' b = G.H b
    rw [upd_ne]
    rintro rfl
    exact h.f f
theorem StRep.side (r : StRep W G s σ O) (h : Side G O D o) (hi : imm o = false) : StRep W ⟨upd G.H D o', G.F, G.M⟩ s σ O := by
  have k : Keep G ⟨upd G.H D o', G.F, G.M⟩ := h.keep hi
  have other : ∀ {c : Cell} {b : Addr}, b ≠ D → CRep W G c b → CRep W ⟨upd G.H D o', G.F, G.M⟩ c b := fun {c b} ne z => z.keep k (upd_ne ne)
  refine ⟨r.len, r.lenO, fun j x hx => ?_, r.lenM, fun n c hc => ?_, r.nd, fun b f => ?_⟩
  · obtain ⟨v, oo, e1, e2, e3⟩ := r.slots j x hx
    refine ⟨v, oo, e1, e2, ?_⟩
    cases x with
    | no => exact e3
    | sh d => obtain ⟨z, y, z1, z2⟩ := e3; exact ⟨z, y, z1, Rep.keep k d y z2⟩
    | own c2 =>
      obtain ⟨b, z1, z2, z3, z4⟩ := e3
      refine ⟨b, z1, z2, other (fun z => ?_) z3, z4⟩
      subst z
      exact h.o (List.mem_filterMap.mpr ⟨some b, by rw [← z1]; exact List.mem_of_getElem? e2, rfl⟩)
  · obtain ⟨b, z1, z2, z3⟩ := r.cells n c hc
    refine ⟨b, z1, other (fun z => ?_) z2, z3⟩
    subst z
    exact h.m (List.mem_of_getElem? z1)
  · obtain ⟨x, e⟩ := r.dom b f
    refine ⟨x, ?_⟩
    show upd G.H D o' b = some x
    rw [upd_ne]
    · exact e
    · rintro rfl; exact h.f f
theorem Frm.side (f : Frm G1 (Z.ow O1) G (Z.ow O)) (dm : Dom G1) (h0 : G1.H D = none) : Frm G1 (Z.ow O1) ⟨upd G.H D o', G.F, G.M⟩ (Z.ow O) := by
  have ne : ∀ {b : Addr} {x : HO}, G1.H b = some x → b ≠ D := fun {b x} e z => by subst z; rw [h0] at e; cases e
  refine ⟨⟨fun b x e i => ?_, fun b z => ⟨(f.keep.fz b z).1, ?_⟩, f.keep.mm⟩, fun b x e n1 n2 => ?_, f.fz, f.ow, f.mm, fun b x e => ?_⟩
  · exact (upd_ne (ne e)).trans (f.keep.im b x e i)
  · obtain ⟨x, e⟩ := dm b z
    exact (upd_ne (ne e)).trans (f.keep.fz b z).2
  · exact (upd_ne (ne e)).trans (f.rest b x e n1 n2)
  · obtain ⟨y, hy⟩ := f.dm b x e
    exact ⟨y, (upd_ne (ne e)).trans hy⟩
end
/-! ### names forgotten and back -/
def wipeO (O : List (Option Addr)) : List Nat → List (Option Addr)
  | [] => O
  | v :: vs => (wipeO O vs).set v none
section
variable {W : Wo} {G G' G1 : Gh} {s : Sta} {σ : L2.St} {O O' O1 : List (Option Addr)}
theorem wipeO_ow : ∀ {vs : List Nat} {a : Addr}, a ∈ ow (wipeO O vs) → a ∈ ow O
  | [], _, h => h
  | v :: vs, a, h => wipeO_ow (vs := vs) (ow_set (a := a) h)
theorem StRep.wipe (r : StRep W G s σ O) : ∀ vs : List Nat, StRep W G { s with σ := wipeZ s.σ vs } (L2.wipe σ vs) (wipeO O vs)
  | [] => r
  | v :: vs => (StRep.wipe r vs).drop
theorem frm_wipe {vs : List Nat} : Frm G (ow O) G (ow (wipeO O vs)) := ⟨.refl G, fun _ _ e _ _ => e, fun _ h => .inl h, fun a h => .inl (wipeO_ow (a := a) h), fun _ h => .inl h, fun _ x e => ⟨x, e⟩⟩
theorem wipe_out : ∀ {vs : List Nat} {j : Nat}, j ∉ vs → (L2.wipe σ vs)[j]? = σ[j]?
  | [], _, _ => rfl
  | v :: vs, j, h => by
    simp only [List.mem_cons, not_or] at h
    show ((L2.wipe σ vs).set v none)[j]? = _
    rw [List.getElem?_set_ne (Ne.symm h.1), wipe_out h.2]
theorem wipe_in : ∀ {vs : List Nat} {j : Nat}, j ∈ vs → j < σ.length → (L2.wipe σ vs)[j]? = some none
  | v :: vs, j, h, hl => by
    show ((L2.wipe σ vs).set v none)[j]? = _
    by_cases e : j = v
    · subst e
      rw [List.getElem?_set_self (by rw [wipe_length]; exact hl)]
    · rw [List.getElem?_set_ne (Ne.symm e)]
      exact wipe_in ((List.mem_cons.mp h).resolve_left e) hl
theorem wipe_eq {σ' : L2.St} {vs : List Nat} (hl : σ'.length = σ.length) (h : ∀ j, j ∉ vs → σ'[j]? = (L2.wipe σ vs)[j]?) : L2.wipe σ' vs = L2.wipe σ vs := by
  apply List.ext_getElem?
  intro j
  by_cases hj : j ∈ vs
  · by_cases hlt : j < σ.length
    · rw [wipe_in hj hlt, wipe_in hj (by rw [hl]; exact hlt)]
    · rw [List.getElem?_eq_none (by rw [wipe_length]; omega), List.getElem?_eq_none (by rw [wipe_length]; omega)]
  · rw [wipe_out hj, h j hj]
theorem wipeO_out : ∀ {vs : List Nat} {j : Nat}, j ∉ vs → (wipeO O vs)[j]? = O[j]?
  | [], _, _ => rfl
  | v :: vs, j, h => by
    simp only [List.mem_cons, not_or] at h
    show ((wipeO O vs).set v none)[j]? = _
    rw [List.getElem?_set_ne (Ne.symm h.1), wipeO_out h.2]
theorem wipeO_length (O : List (Option Addr)) : ∀ vs : List Nat, (wipeO O vs).length = O.length
  | [] => rfl
  | v :: vs => by show ((wipeO O vs).set v none).length = _; rw [List.length_set, wipeO_length O vs]
theorem wipeO_in : ∀ {vs : List Nat} {j : Nat}, j ∈ vs → j < O.length → (wipeO O vs)[j]? = some none
  | v :: vs, j, h, hl => by
    show ((wipeO O vs).set v none)[j]? = _
    by_cases e : j = v
    · subst e
      rw [List.getElem?_set_self (by rw [wipeO_length]; exact hl)]
    · rw [List.getElem?_set_ne (Ne.symm e)]
      exact wipeO_in ((List.mem_cons.mp h).resolve_left e) hl
theorem wipeO_nodup : ∀ {vs : List Nat}, (ow O).Nodup → (ow (wipeO O vs)).Nodup
  | [], h => h
  | v :: vs, h => ow_nodup_set v (wipeO_nodup (vs := vs) h)
theorem backZ_length (z0 z : List Slot) : ∀ vs : List Nat, (backZ z0 z vs).length = z.length
  | [] => rfl
  | v :: vs => by show ((backZ z0 z vs).set v _).length = _; rw [List.length_set, backZ_length z0 z vs]
theorem backZ_out {z0 z : List Slot} : ∀ {vs : List Nat} {j : Nat}, j ∉ vs → (backZ z0 z vs)[j]? = z[j]?
  | [], _, _ => rfl
  | v :: vs, j, h => by
    simp only [List.mem_cons, not_or] at h
    show ((backZ z0 z vs).set v _)[j]? = _
    rw [List.getElem?_set_ne (Ne.symm h.1), backZ_out h.2]
theorem backZ_in {z0 z : List Slot} : ∀ {vs : List Nat} {j : Nat}, j ∈ vs → j < z.length → (backZ z0 z vs)[j]? = some (z0.getD j .no)
  | v :: vs, j, h, hl => by
    show ((backZ z0 z vs).set v _)[j]? = _
    by_cases e : j = v
    · subst e
      rw [List.getElem?_set_self (by rw [backZ_length]; exact hl)]
    · rw [List.getElem?_set_ne (Ne.symm e)]
      exact backZ_in ((List.mem_cons.mp h).resolve_left e) hl
theorem wipeZ_length (z : List Slot) : ∀ vs : List Nat, (wipeZ z vs).length = z.length
  | [] => rfl
  | v :: vs => by show ((wipeZ z vs).set v _).length = _; rw [List.length_set, wipeZ_length z vs]
theorem StRep.back {s1 s' : Sta} {vs : List Nat} (r1 : StRep W G1 s1 σ O1) (r : StRep W G' s' (L2.wipe σ vs) O') (k : Keep G1 G') (hs : ∀ v ∈ vs, isSh (s1.σ.getD v .no) = true) : StRep W G' { s' with σ := backZ s1.σ s'.σ vs } σ (wipeO O' vs) := by
  have hl : s'.σ.length = s1.σ.length := by rw [← r.len, wipe_length, r1.len]
  refine ⟨?_, ?_, fun j x hx => ?_, r.lenM, r.cells, ?_, r.dom⟩
  · show σ.length = (backZ s1.σ s'.σ vs).length
    rw [backZ_length, hl, r1.len]
  · show (wipeO O' vs).length = (backZ s1.σ s'.σ vs).length
    rw [backZ_length, wipeO_length, r.lenO]
  · have hx : (backZ s1.σ s'.σ vs)[j]? = some x := hx
    by_cases hj : j ∈ vs
    · have hlt : j < s'.σ.length := by
        have := (List.getElem?_eq_some_iff.mp hx).1
        rwa [backZ_length] at this
      rw [backZ_in hj hlt] at hx
      cases hx
      have e0 : s1.σ[j]? = some (s1.σ.getD j .no) := by
        rw [List.getD_eq_getElem?_getD]
        rw [List.getElem?_eq_getElem (by omega)]
        rfl
      obtain ⟨v, o, e1, e2, e3⟩ := r1.slots j _ e0
      refine ⟨v, none, e1, wipeO_in hj (by rw [r.lenO]; exact hlt), ?_⟩
      have hh := hs j hj
      cases q : s1.σ.getD j .no with
      | no => rfl
      | sh d =>
        rw [q] at e3
        obtain ⟨_, y, e4, e5⟩ := e3
        exact ⟨rfl, y, e4, Rep.keep k d y e5⟩
      | own c => rw [q] at hh; cases hh
    · rw [backZ_out hj] at hx
      obtain ⟨v, o, e1, e2, e3⟩ := r.slots j x hx
      rw [wipe_out hj] at e1
      exact ⟨v, o, e1, by rw [wipeO_out hj]; exact e2, e3⟩
  · obtain ⟨n1, n2, n3⟩ := List.nodup_append.mp r.nd
    exact List.nodup_append.mpr ⟨wipeO_nodup n1, n2, fun x hx y hy => n3 x (wipeO_ow (a := x) hx) y hy⟩
end

/-! ### the loop -/
theorem noX_ok {α : Type} {r : Res α} {a : α} {s : Sta} (h : noX r = .ok a s) : r = .ok a s := by
  cases r <;> first | exact h | cases h
theorem noX_exn {α : Type} {r : Res α} {x : Exn} {s : Sta} : noX r ≠ .exn x s := by
  cases r <;> intro h <;> cases h
theorem compL_exn {turn : D → Sta → Res (Option D)} (ht : ∀ d s x s', turn d s ≠ .exn x s') : ∀ (ds acc : List D) (s : Sta) (x : Exn) (s' : Sta), compL turn ds acc s ≠ .exn x s'
  | [], _, _, _, _ => by intro h; cases h
  | d :: ds, acc, s, x, s' => by
    intro h
    simp only [compL] at h
    cases e : turn d s with
    | stuck => rw [e] at h; cases h
    | exn y s2 => exact ht d s y s2 e
    | ok r s1 =>
      rw [e] at h
      cases r with
      | none => exact compL_exn ht ds acc s1 x s' h
      | some y =>
        simp only [Res.bind] at h
        split at h
        · exact compL_exn ht ds _ s1 x s' h
        · cases h
abbrev wF : WX := fun _ _ _ _ => False
section
variable {W : Wo} {wx : WX} {P : Prog}
theorem lc_w {tg : Tg} {vs : List Nat} {it : It} {ifs : List T} {e : E} (hsub : ∀ v ∈ tgv tg, v ∈ vs) {σ : L2.St} {H : Hp} {Q : VK} (h : tE W wx (ev P (.comp tg vs it ifs e)) σ H Q) :
    tLc (tI W wx (evit P it)) (tG W tg) (tB W wF (evts P ifs)) (tV W wF (ev P e)) vs σ H Q := by
  obtain ⟨G, O, s, e0, r, q⟩ := h
  refine ⟨G, O, s, e0, r, ?_⟩
  simp only [ev] at q
  refine Out.bind mono_RO q fun ds s1 _ J G1 O1 fr r1 rr q1 => ?_
  have rr : JOk W G1 ds J := rr
  generalize hturn : (fun (d : D) (s2 : Sta) => noX (match assign tg d s2.σ with
            | some σ' => (evts P ifs { s2 with σ := σ' }).bind fun b s3 => if b = true then (ev P e s3).bind fun x s4 => Res.ok (some x.2) { s4 with σ := wipeZ s4.σ vs } else Res.ok none { s3 with σ := wipeZ s3.σ vs }
            | none => Res.stuck)) = turn at q1
  split at q1
  · rename_i hsh
    have hsh : ∀ v ∈ vs, isSh (s1.σ.getD v .no) = true := by simpa using hsh
    cases ec : compL turn ds [] { s1 with σ := wipeZ s1.σ vs } with
    | stuck => rw [ec] at q1; exact q1.elim
    | exn x s' => exact absurd ec (compL_exn (fun d s x s' => by rw [← hturn]; exact noX_exn) _ _ _ _ _)
    | ok res s5 =>
      rw [ec] at q1
      have q1 : ∀ b G' O', Frm G1 (ow O1) G' (ow O') → StRep W G' { s5 with σ := backZ s1.σ s5.σ vs } σ O' → RO W G1 O1 G' O' { s5 with σ := backZ s1.σ s5.σ vs } (true, .lst res) b → Q b G'.H := q1
      intro D nD
      let inv : Nat → Hp → Prop := fun i H => ∃ (G' : Gh) (O' : List (Option Addr)) (s' : Sta) (acc : List Z.D) (avs : List V), G'.H = H ∧ StRep W G' s' (L2.wipe σ vs) O' ∧ Frm G1 (ow O1) G' (ow O') ∧ Side G' O' D (.lst avs) ∧ Reps W G' acc avs ∧
        compL turn (ds.drop i) acc s' = .ok res s5
      refine ⟨fun i m H => m = ds.length - i ∧ i ≤ ds.length ∧ inv i H, ⟨ds.length, by simp, Nat.zero_le _, ?_⟩, ?_⟩
      · have ex := ext_new (o := HO.lst []) nD
        have r2 := (r1.wipe vs).ext ex
        have hD : ∀ a, a ∈ ow (wipeO O1 vs) ∨ a ∈ G1.M → a ≠ D := fun a ha z => by
          subst z
          rcases ha with ha | ha
          · obtain ⟨i, c, _, _, h3, _⟩ := ow_in r1 (wipeO_ow ha)
            obtain ⟨o, ho, _⟩ := h3.there
            rw [nD] at ho; cases ho
          · obtain ⟨n, c, _, _, h3, _⟩ := mem_M r1 ha
            obtain ⟨o, ho, _⟩ := h3.there
            rw [nD] at ho; cases ho
        refine ⟨⟨upd G1.H D (.lst []), G1.F, G1.M⟩, _, _, [], [], rfl, r2, frm_wipe.trans ((r1.wipe vs).fr ex), ⟨upd_same, fun z => ?_, fun z => hD D (.inl z) rfl, fun z => hD D (.inr z) rfl⟩, by simp [Reps], ec⟩
        obtain ⟨o, ho⟩ := r1.dom D z
        rw [nD] at ho; cases ho
      · rintro i m H ⟨rfl, hi, G', O', s', acc, avs, rfl, r', f', sd, ra, hc⟩
        by_cases hlt : i < ds.length
        · refine .inr ⟨rr.go G' i f'.keep hlt, inv (i + 1), fun H' p' => ⟨ds.length - (i + 1), by omega, rfl, hlt, p'⟩, fun x H' y => ?_⟩
          obtain ⟨d, hd⟩ : ∃ d, ds[i]? = some d := ⟨_, List.getElem?_eq_getElem hlt⟩
          obtain ⟨G2, rfl, ex, rx⟩ := rr.yld G' i d x H' f'.keep r'.dom hd y
          have r2 := r'.ext ex
          have f2 := f'.trans (r'.fr ex)
          have sd2 := sd.frm (r'.fr ex)
          have ra2 := Reps.keep (r'.fr ex).keep _ _ ra
          have hdrop : ds.drop i = d :: ds.drop (i + 1) := by
            rw [List.drop_eq_getElem_cons hlt]
            rw [List.getElem?_eq_getElem hlt] at hd
            cases hd; rfl
          rw [hdrop] at hc
          simp only [compL] at hc
          cases et : turn d s' with
          | stuck => rw [et] at hc; cases hc
          | exn x s'' => rw [et] at hc; cases hc
          | ok ro s'' =>
            rw [et] at hc
            rw [← hturn] at et
            have et := noX_ok et
            cases ea : assign tg d s'.σ with
            | none => rw [ea] at et; cases et
            | some z =>
              rw [ea] at et
              simp only at et
              refine ⟨G2, O', s', d, z, rfl, r2, rx, ea, fun σ2 O2 r3 f3 n3 l3 => ?_⟩
              have hw : L2.wipe σ2 vs = L2.wipe σ vs := wipe_eq (by rw [l3, wipe_length]) fun j hj => n3 j fun z => hj (hsub j z)
              refine ⟨hw, G2, O2, { s' with σ := z }, rfl, r3, ?_⟩
              cases ev1 : evts P ifs { s' with σ := z } with
              | stuck => rw [ev1] at et; cases et
              | exn y s3 => rw [ev1] at et; cases et
              | ok b s3 =>
                rw [ev1] at et
                intro b' G3 O3 f4 r4 eb
                have eb : b = b' := eb
                subst eb
                simp only [Res.bind] at et
                cases b with
                | false =>
                  simp only [Bool.false_eq_true, if_false] at et ⊢
                  cases et
                  simp only [Res.bind] at hc
                  have r5 := r4.wipe vs
                  rw [hw] at r5
                  have ff := f3.trans (f4.trans (frm_wipe (vs := vs)))
                  exact ⟨G3, _, _, acc, avs, rfl, r5, f2.trans ff, sd2.frm ff, Reps.keep ff.keep _ _ ra2, hc⟩
                | true =>
                  simp only [if_true] at et ⊢
                  refine ⟨G3, O3, s3, rfl, r4, ?_⟩
                  cases ev2 : ev P e s3 with
                  | stuck => rw [ev2] at et; cases et
                  | exn y s4 => rw [ev2] at et; cases et
                  | ok x s4 =>
                    rw [ev2] at et
                    cases et
                    simp only [Res.bind] at hc
                    split at hc
                    · rename_i hlen
                      intro y G4 O4 f5 r5 ry
                      have ry : Rep W G4 x.2 y := ry
                      have r6 := r5.wipe vs
                      rw [hw] at r6
                      have ff := f3.trans (f4.trans (f5.trans (frm_wipe (vs := vs))))
                      have sd5 := sd2.frm ff
                      refine ⟨avs, sd5.h, by rw [ra.len, ← lim_line]; exact hlen, ⟨upd G4.H D (.lst (avs ++ [y])), G4.F, G4.M⟩, _, _, acc ++ [x.2], avs ++ [y], rfl, r6.side sd5 rfl, (f2.trans ff).side r1.dom nD, ⟨upd_same, sd5.f, sd5.o, sd5.m⟩, ?_, hc⟩
                      have kk : Keep G4 ⟨upd G4.H D (.lst (avs ++ [y])), G4.F, G4.M⟩ := sd5.keep rfl
                      exact (Reps.keep (ff.keep.trans kk) _ _ ra2).append (.one (Rep.keep kk _ _ ry))
                    · cases hc
        · have e : i = ds.length := by omega
          subst e
          refine .inl ⟨rr.stop G' _ f'.keep (Nat.le_refl _), ?_⟩
          rw [List.drop_length] at hc
          cases hc
          refine q1 (.ref D) G' _ (f'.trans (frm_wipe (vs := vs))) (r1.back r' f'.keep hsh) ?_
          unfold RO
          rw [if_pos rfl]
          exact ⟨.L res, D, rfl, rfl, ⟨avs, sd.h, ra⟩, sd.f, fun z => sd.o (wipeO_ow z), sd.m, .inr nD⟩
  · exact q1.elim
end
end Z

set_option Elab.async false
set_option linter.all false
set_option maxRecDepth 100000
set_option maxHeartbeats 4000000
set_option autoImplicit false
/-! ZSnd8: what is checked is so: expressions, tests, iterables. -/
namespace Z
open PySem PySem.Spec PyProof.Rows L2
section
variable {W : Wo} {wx : WX} {X : Cx} {P : Prog} {nm : Nm} {t : Tbl} {k : Nat} {N : List Str} {sc ws : Scope}
/-- an object shown as a cell -/
theorem StRep.cell {G0 G : Gh} {O0 O : List (Option Addr)} {s : Sta} {σ : L2.St} {c : Cell} {a : Addr} (f : Frm G0 (Z.ow O0) G (Z.ow O)) (r : StRep W G s σ O) (h : CRep W G c a) (nf : ¬ G.F a) (n1 : a ∉ Z.ow O) (n2 : a ∉ G.M) (fr : fresh G0 O0 a) :
    StRep W ⟨G.H, G.F, G.M ++ [a]⟩ { s with S := s.S ++ [c] } σ O ∧ Frm G0 (Z.ow O0) ⟨G.H, G.F, G.M ++ [a]⟩ (Z.ow O) ∧ Rep W ⟨G.H, G.F, G.M ++ [a]⟩ (.ref s.S.length) (.ref a) := by
  have k : Keep G ⟨G.H, G.F, G.M ++ [a]⟩ := ⟨fun _ _ e _ => e, fun _ h => ⟨h, rfl⟩, fun n b e => by
    show (G.M ++ [a])[n]? = some b
    rw [List.getElem?_append_left ((List.getElem?_eq_some_iff.mp e).1)]; exact e⟩
  have last : (G.M ++ [a])[s.S.length]? = some a := by
    rw [← r.lenM]; simp
  refine ⟨⟨r.len, r.lenO, fun j x hx => ?_, ?_, fun n x hx => ?_, ?_, r.dom⟩, ⟨f.keep.trans k, f.rest, f.fz, f.ow, fun b hb => ?_, f.dm⟩, ?_⟩
  · obtain ⟨v, o, e1, e2, e3⟩ := r.slots j x hx
    refine ⟨v, o, e1, e2, ?_⟩
    cases x with
    | no => exact e3
    | sh d => obtain ⟨z, y, z1, z2⟩ := e3; exact ⟨z, y, z1, Rep.keep k d y z2⟩
    | own c2 =>
      obtain ⟨b, z1, z2, z3, z4⟩ := e3
      exact ⟨b, z1, z2, z3.keep k rfl, z4⟩
  · show (G.M ++ [a]).length = (s.S ++ [c]).length
    simp [r.lenM]
  · have hx : (s.S ++ [c])[n]? = some x := hx
    by_cases hn : n < s.S.length
    · rw [List.getElem?_append_left hn] at hx
      obtain ⟨b, z1, z2, z3⟩ := r.cells n x hx
      exact ⟨b, k.mm n b z1, z2.keep k rfl, z3⟩
    · have hn' : n = s.S.length := by
        have := (List.getElem?_eq_some_iff.mp hx).1
        simp at this; omega
      subst hn'
      simp at hx
      subst hx
      exact ⟨a, last, h.keep k rfl, nf⟩
  · obtain ⟨m1, m2, m3⟩ := List.nodup_append.mp r.nd
    refine List.nodup_append.mpr ⟨m1, List.nodup_append.mpr ⟨m2, by simp, fun x hx y hy => ?_⟩, fun x hx y hy => ?_⟩
    · rw [List.mem_singleton] at hy
      subst hy
      exact fun z => n2 (z ▸ hx)
    · have hy : y ∈ G.M ++ [a] := hy
      rcases List.mem_append.mp hy with hy | hy
      · exact m3 x hx y hy
      · rw [List.mem_singleton] at hy
        subst hy
        exact fun z => n1 (z ▸ hx)
  · have hb : b ∈ G.M ++ [a] := hb
    rcases List.mem_append.mp hb with hb | hb
    · exact f.mm b hb
    · rw [List.mem_singleton] at hb
      subst hb
      exact .inr fr
  · simp only [Rep]
    exact ⟨a, rfl, last⟩
theorem z_cell {i : E} {e : Expr} (h : PE X e (tE W wx (ev P i))) : PE X e (tE W wx (ev P (.cell i))) := by
  refine pe_weak h fun σ H Q q => ?_
  obtain ⟨G, O, s, e0, r, q⟩ := q
  refine ⟨G, O, s, e0, r, ?_⟩
  simp only [ev] at q
  cases e1 : ev P i s with
  | stuck => rw [e1] at q; exact q
  | exn x s1 => rw [e1] at q; exact q
  | ok x s1 =>
    rw [e1] at q
    intro v G1 O1 fr r1 rr
    simp only [Res.bind] at q
    split at q
    · rename_i hx
      unfold RO at rr
      rw [if_pos hx] at rr
      obtain ⟨c, a, h1, rfl, h3, h4, h5, h6, h7⟩ := rr
      rw [h1] at q
      simp only at q
      obtain ⟨g1, g2, g3⟩ := StRep.cell fr r1 h3 h4 h5 h6 h7
      exact q (.ref a) ⟨G1.H, G1.F, G1.M ++ [a]⟩ O1 g2 g1 (ro_val g3)
    · exact q.elim
/-! ### a comprehension's block -/
theorem relS_look {scope sc : Scope} {x : Str} {kd : NameKind} (hk : kd ≠ .free) (h : scope.names.lookup x = some kd) : (relS scope sc).names.lookup x = some kd := by
  have gen : ∀ l : List (Str × NameKind), l.lookup x = some kd → (l.map fun (n, k) => if (k == .free && sc.kind == .function && sc.names.lookup n == some .cell) then (n, NameKind.cell) else (n, k)).lookup x = some kd := by
    intro l
    induction l with
    | nil => intro h; simp at h
    | cons p l ih =>
      obtain ⟨n, kk⟩ := p
      intro h
      rw [List.lookup_cons] at h
      simp only [List.map_cons]
      split at h
      · rename_i hn
        cases h
        have hkf : (kd == NameKind.free) = false := by simpa using hk
        simp only [hkf, Bool.false_and, Bool.false_eq_true, if_false]
        rw [List.lookup_cons, hn]
      · rename_i hn
        split <;> (rw [List.lookup_cons, hn]; exact ih h)
  exact gen _ h
theorem Cok.blk (C : Cok W nm t k wx N sc ws X) (s : Shared) (H : Hp) (scope : Scope) (C' : Addr) (cl : List (Str × Addr)) (fp : List Addr) : Cok W nm t k wF N (relS scope sc) scope (X.blk s H scope (compEnvC scope cl C' X.env) fp) where
  eK := C.eK
  eN := C.eN
  nd := C.nd
  eS := by rw [← C.eS]; rfl
  calm := C.calm
  room := C.room
  tk := fun u s' ⟨_, _, _, _, _, _, _, _, _, _, _, _, _, _, _, _, w⟩ => w.elim
  flen := C.flen
  fns := fun f fn h => ⟨(C.fns f fn h).ex⟩
  gls := C.gls
  blt := C.blt
  fa := C.fa
  exc := C.exc
  wr := fun x h => by
    have e : (X.blk s H scope (compEnvC scope cl C' X.env) fp).env.scope = relS scope X.env.scope := rfl
    unfold locB at h
    split at h
    · rename_i hx
      have := relS_look (sc := X.env.scope) (by decide) hx
      exact ⟨.inl this, .inr this⟩
    · rename_i hx
      have := relS_look (sc := X.env.scope) (by decide) hx
      refine ⟨.inr this, .inl ?_⟩
      show (scope.names.lookup x == some .cell) = true
      rw [hx]; decide
    · cases h
/-! ### no star -/
theorem shape_ns {p : Prim} {e : Expr} {es : List Expr} (h : shape sc p e = some es) : nstar e = true := by
  cases e <;> first | rfl | (exfalso; cases p <;> simp [shape] at h)
theorem mshape_ns {n : String} {e : Expr} {es : Expr × List Expr} (h : mshape n e = some es) : nstar e = true := by
  cases e <;> first | rfl | (simp [mshape] at h)
theorem chk_ns : ∀ (i : E) (e : Expr), chkE nm N sc e i = true → nstar e = true
  | .cell i, e, h => chk_ns i e (by simpa only [chkE] using h)
  | .v _, e, h => by cases e <;> first | rfl | (simp [chkE, isVar] at h)
  | .lit _, e, h => by cases e <;> first | rfl | (simp [chkE] at h)
  | .g _, e, h => by cases e <;> first | rfl | (simp [chkE, isGl] at h)
  | .fn _, e, h => by cases e <;> first | rfl | (simp [chkE, isGl] at h)
  | .pr p es, e, h => by
    simp only [chkE] at h
    split at h
    · rename_i es' hs; exact shape_ns hs
    · cases h
  | .sl _ _ _, e, h => by cases e <;> first | rfl | (simp [chkE] at h)
  | .mp m o is, e, h => by
    simp only [chkE] at h
    split at h
    · rename_i x es' hs; exact mshape_ns hs
    · cases h
  | .mu m o is, e, h => by
    simp only [chkE] at h
    split at h
    · rename_i x es' hs; exact mshape_ns hs
    · cases h
  | .tup _, e, h => by cases e <;> first | rfl | (simp [chkE] at h)
  | .lst _, e, h => by cases e <;> first | rfl | (simp [chkE] at h)
  | .dct _ _, e, h => by simp [chkE] at h
  | .call _ _, e, h => by cases e <;> first | rfl | (simp [chkE] at h)
  | .callv _ _, e, h => by cases e <;> first | rfl | (simp [chkE] at h)
  | .notV _, e, h => by cases e <;> first | rfl | (simp [chkE] at h)
  | .bopV _ _, e, h => by cases e <;> first | rfl | (simp [chkE] at h)
  | .ite _ _ _, e, h => by cases e <;> first | rfl | (simp [chkE] at h)
  | .comp _ _ _ _ _, e, h => by cases e <;> first | rfl | (simp [chkE] at h)
  | .fld _ _, e, h => by simp [chkE] at h
  | .mk _ _, e, h => by simp [chkE] at h
  | .mc _ _ _, e, h => by simp [chkE] at h
theorem fold_of {e : Expr} {env : Env} (h : notSet e = true) : ∀ x, foldedSetIterable e env x = pure x := by
  intro x
  cases e <;> first | rfl | cases h
theorem pts_of {is : List T} {es : List Expr} (h : TOks W wx X P is es) : PTs X es (tB W wx (evts P is)) := by
  cases h with
  | nil => exact ⟨fun pins s σ H Q I q => by
      obtain ⟨G, O, z, rfl, r, q⟩ := q
      exact pts_nil.run pins s σ _ Q I (Out.refl_ok (b := true) r q rfl)⟩
  | cons h1 h2 =>
    cases h2 with
    | nil => exact pts_one h1.pt
    | cons h2 h3 => exact ⟨fun pins s σ H Q I q => by
        obtain ⟨G, O, z, rfl, r, q⟩ := q
        exact q.elim⟩
theorem isTup_of {e : Expr} (h : isTupE e = true) : ∃ elts kk pos, e = .Tuple elts kk pos := by
  cases e <;> first | exact ⟨_, _, _, rfl⟩ | cases h
mutual
theorem sndE : ∀ (i : E) (e : Expr) (wx : WX) (sc ws : Scope) (X : Cx), Cok W nm t k wx N sc ws X → chkE nm N sc e i = true → EOk W wx X (prog t k) i e
  | .v j, e, wx, sc, ws, X, C, h => ⟨z_var C (by simpa only [chkE] using h), fun j' hj => by cases hj; exact pe_varZ C (by simpa only [chkE] using h), chk_ns _ _ h⟩
  | .lit d, e, wx, sc, ws, X, C, h => by
    refine ⟨?_, fun j hj => (by cases hj), chk_ns _ _ h⟩
    cases e <;> first | (simp [chkE] at h; done) | skip
    exact z_lit (by simpa only [chkE] using h)
  | .g n, e, wx, sc, ws, X, C, h => ⟨z_glob C (by simpa only [chkE] using h), fun j hj => (by cases hj), chk_ns _ _ h⟩
  | .fn f, e, wx, sc, ws, X, C, h => by
    refine ⟨?_, fun j hj => (by cases hj), chk_ns _ _ h⟩
    have hf : isGl nm.fn sc f e = true := by simpa only [chkE] using h
    obtain ⟨x, p, rfl, h1, _⟩ := isGl_of C hf
    have := (List.getElem?_eq_some_iff.mp h1).1
    rw [C.flen] at this
    exact z_fn C hf this
  | .pr p is, e, wx, sc, ws, X, C, h => by
    refine ⟨?_, fun j hj => (by cases hj), chk_ns _ _ h⟩
    simp only [chkE] at h
    split at h
    · rename_i es hs
      exact z_prim C hs (sndEs is es wx sc ws X C h)
    · cases h
  | .sl a lo hi, e, wx, sc, ws, X, C, h => by
    refine ⟨?_, fun j hj => (by cases hj), chk_ns _ _ h⟩
    simp only [chkE] at h
    split at h
    · simp only [Bool.and_eq_true] at h
      exact z_sl C (sndE a _ wx sc ws X C h.1.1) (sndO lo _ wx sc ws X C h.1.2) (sndO hi _ wx sc ws X C h.2)
    · cases h
  | .mp m o is, e, wx, sc, ws, X, C, h => by
    refine ⟨?_, fun j hj => (by cases hj), chk_ns _ _ h⟩
    simp only [chkE] at h
    split at h
    · rename_i x es hs
      simp only [Bool.and_eq_true, beq_iff_eq] at h
      exact z_mp C hs h.1.1 (sndE o _ wx sc ws X C h.1.2) (sndEs is _ wx sc ws X C h.2)
    · cases h
  | .mu m o is, e, wx, sc, ws, X, C, h => by
    refine ⟨?_, fun j hj => (by cases hj), chk_ns _ _ h⟩
    simp only [chkE] at h
    split at h
    · rename_i x es hs
      simp only [Bool.and_eq_true, beq_iff_eq] at h
      exact z_mu C hs h.1.1 (sndE o _ wx sc ws X C h.1.2) (sndEs is _ wx sc ws X C h.2)
    · cases h
  | .tup is, e, wx, sc, ws, X, C, h => by
    refine ⟨?_, fun j hj => (by cases hj), chk_ns _ _ h⟩
    simp only [chkE] at h
    split at h
    · exact z_tup (sndEs is _ wx sc ws X C h)
    · cases h
  | .lst is, e, wx, sc, ws, X, C, h => by
    refine ⟨?_, fun j hj => (by cases hj), chk_ns _ _ h⟩
    simp only [chkE] at h
    split at h
    · exact z_lst (sndEs is _ wx sc ws X C h)
    · cases h
  | .dct _ _, e, wx, sc, ws, X, C, h => by simp [chkE] at h
  | .cell i, e, wx, sc, ws, X, C, h => by
    refine ⟨?_, fun j hj => (by cases hj), chk_ns _ _ h⟩
    simp only [chkE] at h
    exact z_cell (sndE i e wx sc ws X C h).pe
  | .call f is, e, wx, sc, ws, X, C, h => by
    refine ⟨?_, fun j hj => (by cases hj), chk_ns _ _ h⟩
    simp only [chkE] at h
    split at h
    · simp only [Bool.and_eq_true] at h
      have hf := h.1
      obtain ⟨x, p, rfl, h1, _⟩ := isGl_of C hf
      have := (List.getElem?_eq_some_iff.mp h1).1
      rw [C.flen] at this
      exact z_fcall C this hf (sndEs is _ wx sc ws X C h.2)
    · cases h
  | .callv j is, e, wx, sc, ws, X, C, h => by
    refine ⟨?_, fun j hj => (by cases hj), chk_ns _ _ h⟩
    simp only [chkE] at h
    split at h
    · simp only [Bool.and_eq_true, Bool.not_eq_true', List.isEmpty_eq_false_iff] at h
      exact z_fcallv C h.1.1 h.1.2 (sndEs is _ wx sc ws X C h.2)
    · cases h
  | .notV i, e, wx, sc, ws, X, C, h => by
    refine ⟨?_, fun j hj => (by cases hj), chk_ns _ _ h⟩
    simp only [chkE] at h
    split at h
    · exact z_notV C (sndE i _ wx sc ws X C h)
    · cases h
  | .bopV b is, e, wx, sc, ws, X, C, h => by
    refine ⟨?_, fun j hj => (by cases hj), chk_ns _ _ h⟩
    simp only [chkE] at h
    split at h
    · simp only [Bool.and_eq_true] at h
      have hh := sndEs is _ wx sc ws X C h.2
      cases is with
      | nil => exact ⟨fun pins s σ H Q I q => by
          obtain ⟨G, O, z, rfl, r, q⟩ := q
          exact q.elim⟩
      | cons i is => exact z_bopV h.1 hh (by simp)
    · cases h
  | .ite c a b, e, wx, sc, ws, X, C, h => by
    refine ⟨?_, fun j hj => (by cases hj), chk_ns _ _ h⟩
    simp only [chkE] at h
    split at h
    · simp only [Bool.and_eq_true] at h
      exact z_ite (sndT c _ wx sc ws X C h.1.1) (sndE a _ wx sc ws X C h.1.2) (sndE b _ wx sc ws X C h.2)
    · cases h
  | .comp tg vs it ifs x, e, wx, sc, ws, X, C, h => by
    refine ⟨?_, fun j hj => (by cases hj), chk_ns _ _ h⟩
    simp only [chkE] at h
    split at h
    · rename_i elt te ie ce kz scope pos
      simp only [Bool.and_eq_true, beq_iff_eq, List.all_eq_true, decide_eq_true_eq] at h
      obtain ⟨⟨⟨⟨⟨⟨⟨⟨⟨rfl, h1⟩, h2⟩, h3⟩, h4⟩, h5⟩, h6⟩, h7⟩, h8⟩, h9⟩ := h
      have own : (vs.map fun v => (N.getD v Str.empty, v)).map (·.2) = vs := by
        rw [List.map_map]
        exact List.map_id vs
      have hb : BlkOk X.N X.env.scope scope (vs.map fun v => (N.getD v Str.empty, v)) := by
        rw [C.eN, C.eS]; exact blkOk_by h4
      refine pe_weak (pe_lc (g := tG W tg) (tt := tB W wF (evts (prog t k) ifs)) (te := tV W wF (ev (prog t k) x)) C.calm (by rw [C.eN]; exact C.nd) (sndI it ie te wx sc ws X C h2 h1) hb
        (fun s H C' cl fp => z_tg (C.blk s H scope C' cl fp) te tg h5) (fun s H C' cl fp => pts_of (sndTs ifs ce wF _ _ _ (C.blk s H scope C' cl fp) h7))
        (fun s H C' cl fp => (sndE x elt wF _ _ _ (C.blk s H scope C' cl fp) h8).pv) (fold_of h3)) fun σ H Q q => ?_
      rw [own]
      exact lc_w h6 q
    · cases h
  | .fld _ _, e, wx, sc, ws, X, C, h => by simp [chkE] at h
  | .mk _ _, e, wx, sc, ws, X, C, h => by simp [chkE] at h
  | .mc _ _ _, e, wx, sc, ws, X, C, h => by simp [chkE] at h
theorem sndO : ∀ (i : Option E) (e : Option Expr) (wx : WX) (sc ws : Scope) (X : Cx), Cok W nm t k wx N sc ws X → chkO nm N sc e i = true → OOk W wx X (prog t k) i e
  | none, e, wx, sc, ws, X, C, h => by
    cases e with
    | none => exact oOk_none
    | some e => simp [chkO] at h
  | some i, e, wx, sc, ws, X, C, h => by
    cases e with
    | none => simp [chkO] at h
    | some e => exact oOk_some (sndE i e wx sc ws X C (by simpa only [chkO] using h)).pe
theorem sndEs : ∀ (is : List E) (es : List Expr) (wx : WX) (sc ws : Scope) (X : Cx), Cok W nm t k wx N sc ws X → chkEs nm N sc es is = true → EOks W wx X (prog t k) is es
  | [], es, wx, sc, ws, X, C, h => by
    cases es with
    | nil => exact .nil
    | cons e es => simp [chkEs] at h
  | i :: is, es, wx, sc, ws, X, C, h => by
    cases es with
    | nil => simp [chkEs] at h
    | cons e es =>
      simp only [chkEs, Bool.and_eq_true] at h
      exact .cons (sndE i e wx sc ws X C h.1.1) (sndEs is es wx sc ws X C h.2)
theorem sndT : ∀ (i : T) (e : Expr) (wx : WX) (sc ws : Scope) (X : Cx), Cok W nm t k wx N sc ws X → chkT nm N sc e i = true → TOk W wx X (prog t k) i e
  | .cmp op a b, e, wx, sc, ws, X, C, h => by
    simp only [chkT] at h
    split at h
    · simp only [Bool.and_eq_true, decide_eq_true_eq, Bool.not_eq_true'] at h
      obtain ⟨⟨⟨rfl, h1⟩, h2⟩, h3⟩ := h
      exact z_tcmp C (sndE a _ wx sc ws X C h2) (sndE b _ wx sc ws X C h3) h1
    · cases h
  | .e a, e, wx, sc, ws, X, C, h => by
    simp only [chkT, Bool.and_eq_true] at h
    exact z_te C (sndE a _ wx sc ws X C h.2) h.1
  | .not c, e, wx, sc, ws, X, C, h => by
    simp only [chkT] at h
    split at h
    · exact z_tnot (sndT c _ wx sc ws X C h)
    · cases h
  | .bop b ts, e, wx, sc, ws, X, C, h => by
    simp only [chkT] at h
    split at h
    · simp only [Bool.and_eq_true] at h
      have hh := sndTs ts _ wx sc ws X C h.2
      cases ts with
      | nil => exact ⟨⟨fun pins s σ H Q I q => by
          obtain ⟨G, O, z, rfl, r, q⟩ := q
          exact q.elim⟩⟩
      | cons i is => exact ⟨(z_tbop h.1 hh (by simp)).pt⟩
    · cases h
theorem sndTs : ∀ (is : List T) (es : List Expr) (wx : WX) (sc ws : Scope) (X : Cx), Cok W nm t k wx N sc ws X → chkTs nm N sc es is = true → TOks W wx X (prog t k) is es
  | [], es, wx, sc, ws, X, C, h => by
    cases es with
    | nil => exact .nil
    | cons e es => simp [chkTs] at h
  | i :: is, es, wx, sc, ws, X, C, h => by
    cases es with
    | nil => simp [chkTs] at h
    | cons e es =>
      simp only [chkTs, Bool.and_eq_true] at h
      exact .cons (sndT i e wx sc ws X C h.1.1) (sndTs is es wx sc ws X C h.2)
theorem sndI : ∀ (i : It) (e tg : Expr) (wx : WX) (sc ws : Scope) (X : Cx), Cok W nm t k wx N sc ws X → itTg i tg = true → chkIt nm N sc e i = true → PI X tg e (tI W wx (evit (prog t k) i))
  | .seq i, e, tg, wx, sc, ws, X, C, ht, h => z_iseq C (sndE i e wx sc ws X C (by simpa only [chkIt] using h))
  | .rng is, e, tg, wx, sc, ws, X, C, ht, h => by
    simp only [chkIt] at h
    split at h
    · rename_i es hs
      simp only [Bool.and_eq_true, decide_eq_true_eq] at h
      exact z_irng C hs (sndEs is _ wx sc ws X C h.2) h.1
    · cases h
  | .enum i, e, tg, wx, sc, ws, X, C, ht, h => by
    simp only [chkIt] at h
    split at h
    · rename_i a hs
      exact z_ienum C hs (sndE i a wx sc ws X C h) (isTup_of ht)
    · cases h
  | .zip i j, e, tg, wx, sc, ws, X, C, ht, h => by
    simp only [chkIt] at h
    split at h
    · rename_i a b hs
      simp only [Bool.and_eq_true] at h
      exact z_izip C hs (sndE i a wx sc ws X C h.1) (sndE j b wx sc ws X C h.2) (isTup_of ht)
    · cases h
end
end
end Z

set_option Elab.async false
set_option linter.all false
set_option maxRecDepth 100000
set_option maxHeartbeats 4000000
set_option autoImplicit false
/-! ZSnd9: statements: readings and rules. -/
namespace Z
open PySem PySem.Spec PyProof.Rows L2
/-- what a return gives -/
def RetRep (W : Wo) (G : Gh) (O : List (Option Addr)) (G' : Gh) (o : Bool) (d : D) (v : V) : Prop :=
  if o = true then ∃ c a, toCell d = some c ∧ v = .ref a ∧ CRep W G' c a ∧ ¬ G'.F a ∧ a ∉ G'.M ∧ fresh G O a else Rep W G' d v
def OutS (W : Wo) (wx : WX) (G : Gh) (O : List (Option Addr)) (D : Ends) : RS → Prop
  | .next s' => ∀ σ' G' O', Frm G (Z.ow O) G' (Z.ow O') → StRep W G' s' σ' O' → D.nx σ' G'.H
  | .brk s' => ∀ σ' G' O', Frm G (Z.ow O) G' (Z.ow O') → StRep W G' s' σ' O' → D.bk σ' G'.H
  | .cnt s' => ∀ σ' G' O', Frm G (Z.ow O) G' (Z.ow O') → StRep W G' s' σ' O' → D.ct σ' G'.H
  | .ret o d s' => ∀ v σ' G' O', Frm G (Z.ow O) G' (Z.ow O') → StRep W G' s' σ' O' → RetRep W G O G' o d v → D.rt v G'.H
  | .exn x s' => ∀ σ' G' O', Frm G (Z.ow O) G' (Z.ow O') → StRep W G' s' σ' O' → ∀ cls dx, XRep W G' x cls dx → wx cls dx σ' G'.H
  | .stuck => False
theorem RetRep.mono {W : Wo} {G G1 G2 : Gh} {O O1 : List (Option Addr)} {o : Bool} {d : D} {v : V} (f : Frm G (Z.ow O) G1 (Z.ow O1)) (h : RetRep W G1 O1 G2 o d v) : RetRep W G O G2 o d v := by
  unfold RetRep at h ⊢
  split
  · rename_i e
    rw [if_pos e] at h
    obtain ⟨c, a, h1, h2, h3, h4, h5, h6⟩ := h
    exact ⟨c, a, h1, h2, h3, h4, h5, h6.mono f⟩
  · rename_i e
    rw [if_neg e] at h
    exact h
section
variable {W : Wo} {wx : WX} {G G1 : Gh} {O O1 : List (Option Addr)} {σ : L2.St} {D : Ends}
theorem OutS.shift (f : Frm G (Z.ow O) G1 (Z.ow O1)) {r : RS} (h : OutS W wx G O D r) : OutS W wx G1 O1 D r := by
  cases r with
  | next s => exact fun σ' G' O' fr sr => h σ' G' O' (f.trans fr) sr
  | brk s => exact fun σ' G' O' fr sr => h σ' G' O' (f.trans fr) sr
  | cnt s => exact fun σ' G' O' fr sr => h σ' G' O' (f.trans fr) sr
  | ret o d s => exact fun v σ' G' O' fr sr rr => h v σ' G' O' (f.trans fr) sr (rr.mono f)
  | exn x s => exact fun σ' G' O' fr sr => h σ' G' O' (f.trans fr) sr
  | stuck => exact h
theorem Out.then {γ δ : Type} {R1 : Gh → List (Option Addr) → Gh → List (Option Addr) → Sta → γ → δ → Prop} {Q1 : δ → Hp → Prop} {r : Res γ} {k : γ → Sta → RS} (h : OutS W wx G O D (r.then k))
    (hk : ∀ a s1, r = .ok a s1 → ∀ b G1 O1, Frm G (Z.ow O) G1 (Z.ow O1) → StRep W G1 s1 σ O1 → R1 G O G1 O1 s1 a b → OutS W wx G1 O1 D (k a s1) → Q1 b G1.H) : Out W wx G O σ R1 Q1 r := by
  cases r with
  | ok a s => exact fun b G1 O1 fr sr rr => hk a s rfl b G1 O1 fr sr rr (OutS.shift fr h)
  | exn x s => exact fun G' O' fr sr => h σ G' O' fr sr
  | stuck => exact h
end
def tS (W : Wo) (wx : WX) (f : Sta → RS) : TS := fun D σ H => ∃ (G : Gh) (O : List (Option Addr)) (s : Sta), G.H = H ∧ StRep W G s σ O ∧ OutS W wx G O D (f s)
section
variable {W : Wo} {wx : WX} {X : Cx} {P : Prog} {nm : Nm} {t : Tbl} {k : Nat} {N : List Str} {sc ws : Scope}
/-- what is asked of a def's own context -/
structure Sok (X : Cx) : Prop where
  pa : PassesOwn (model X.prog X.w) X.A X.env X.xe
  stk : X.stack = X.env :: X.outer
  frm : X.env.frame = some X.env.locals
/-! ### the end of a store -/
theorem bind_end {i : Nat} {o : Bool} {d : D} {v : V} {G0 G : Gh} {O0 O : List (Option Addr)} {s : Sta} {σ : L2.St} {D : Ends} (f : Frm G0 (Z.ow O0) G (Z.ow O)) (r : StRep W G s σ O) (rr : RO W G0 O0 G O s (o, d) v) (h : OutS W wx G0 O0 D (bindTo i o d s)) : D.nx (σ.set i (some v)) G.H := by
  unfold bindTo at h
  split at h
  · rename_i hi
    cases o with
    | false =>
      have rr : Rep W G d v := rr
      exact h _ G _ (f.trans frm_put) (r.put hi rr)
    | true =>
      obtain ⟨c, a, h1, rfl, h3, h4, h5, h6, h7⟩ := (show OwnRep W G0 O0 G O d v from rr)
      rw [h1] at h
      exact h _ G _ (frm_putO f h7) (r.putO hi h3 h4 h5 h6)
  · exact h.elim
/-! ### small statements -/
theorem s_nil : PSs X [] (tS W wx (execs P [])) := pss_weak pss_nil fun D σ H q => by
  obtain ⟨G, O, s, rfl, r, q⟩ := q
  exact q σ G O (.refl G _) r
theorem s_cons {st : Stmt} {rest : List Stmt} {x : S} {xs : List S} (h1 : PS X st (tS W wx (exec P x))) (h2 : PSs X rest (tS W wx (execs P xs))) : PSs X (st :: rest) (tS W wx (execs P (x :: xs))) := pss_weak (pss_cons h1 h2) fun D σ H q => by
  obtain ⟨G, O, s, rfl, r, q⟩ := q
  refine ⟨G, O, s, rfl, r, ?_⟩
  simp only [execs] at q
  cases e : exec P x s with
  | next s1 =>
    rw [e] at q
    exact fun σ' G' O' fr sr => ⟨G', O', s1, rfl, sr, OutS.shift fr q⟩
  | brk s1 => rw [e] at q; exact q
  | cnt s1 => rw [e] at q; exact q
  | ret o d s1 => rw [e] at q; exact q
  | exn y s1 => rw [e] at q; exact q
  | stuck => rw [e] at q; exact q
theorem s_pass {pos : Pos} : PS X (.Pass pos) (tS W wx (exec P .pass)) := ps_weak ps_pass fun D σ H q => by
  obtain ⟨G, O, s, rfl, r, q⟩ := q
  exact q σ G O (.refl G _) r
theorem s_brk {pos : Pos} : PS X (.Break pos) (tS W wx (exec P .brk)) := ps_weak ps_break fun D σ H q => by
  obtain ⟨G, O, s, rfl, r, q⟩ := q
  exact q σ G O (.refl G _) r
theorem s_cnt {pos : Pos} : PS X (.Continue pos) (tS W wx (exec P .cnt)) := ps_weak ps_continue fun D σ H q => by
  obtain ⟨G, O, s, rfl, r, q⟩ := q
  exact q σ G O (.refl G _) r
def notComp : Expr → Bool
  | .ListComp _ _ _ _ => false
  | .SetComp _ _ _ _ => false
  | .DictComp _ _ _ _ _ => false
  | _ => true
theorem swap_of {e : Expr} {tg : Option Expr} {l : Nat} {env : Env} (h : notComp e = true) : swapsWith e tg l env = pure false := by
  cases e <;> first | rfl | cases h
theorem s_exp {i : E} {e : Expr} {pos : Pos} (h : EOk W wx X P i e) (hn : notComp e = true) : PS X (.Expr e pos) (tS W wx (exec P (.exp i))) := ps_weak (ps_expr h.pv (swap_of hn)) fun D σ H q => by
  obtain ⟨G, O, s, e, r, q⟩ := q
  refine ⟨G, O, s, e, r, ?_⟩
  simp only [exec] at q
  exact Out.then q fun a s1 _ x G1 O1 fr r1 rr q1 => q1 σ G1 O1 (.refl G1 _) r1
theorem s_retN {pos : Pos} : PS X (.Return none pos) (tS W wx (exec P .retN)) := ps_weak ps_retN fun D σ H q => by
  obtain ⟨G, O, s, rfl, r, q⟩ := q
  exact q .non σ G O (.refl G _) r (show Rep W G .non .non from rep_non)
theorem s_ret {i : E} {e : Expr} {pos : Pos} (h : EOk W wx X P i e) : PS X (.Return (some e) pos) (tS W wx (exec P (.ret i))) := by
  have gen : (∀ s, exec P (.ret i) s = (ev P i s).then fun x s1 => .ret x.1 x.2 s1) → PS X (.Return (some e) pos) (tS W wx (exec P (.ret i))) := fun eq => ps_weak (ps_ret h.pe) fun D σ H q => by
    obtain ⟨G, O, s, e, r, q⟩ := q
    refine ⟨G, O, s, e, r, ?_⟩
    rw [eq] at q
    cases e1 : ev P i s with
    | stuck => rw [e1] at q; exact q
    | exn y s1 => rw [e1] at q; exact fun G' O' fr sr => q σ G' O' fr sr
    | ok x s1 =>
      rw [e1] at q
      intro v G1 O1 fr r1 rr
      refine q v σ G1 O1 fr r1 ?_
      unfold RO at rr
      unfold RetRep
      split
      · rename_i hx
        rw [if_pos hx] at rr
        obtain ⟨c, a, h1, h2, h3, h4, h5, h6, h7⟩ := rr
        exact ⟨c, a, h1, h2, h3, h4, h6, h7⟩
      · rename_i hx
        rw [if_neg hx] at rr
        exact rr
  cases i with
  | v j =>
    refine ps_weak (ps_ret (h.var j rfl)) fun D σ H q => ?_
    obtain ⟨G, O, s, rfl, r, q⟩ := q
    simp only [exec] at q
    cases e1 : s.σ[j]? with
    | none => rw [e1] at q; exact q.elim
    | some x =>
      rw [e1] at q
      cases x with
      | no => exact q.elim
      | sh d =>
        obtain ⟨v, o, h1, h2, _, y, rfl, ry⟩ := r.slots j _ e1
        exact ⟨y, h1, q y σ G O (.refl G _) r ry⟩
      | own c =>
        obtain ⟨a, h1, h2, h3, h4, h5, h6⟩ := own_in r e1
        refine ⟨.ref a, h2, ?_⟩
        simp only at q
        cases e2 : c.view with
        | none => rw [e2] at q; exact q.elim
        | some d =>
          rw [e2] at q
          refine q (.ref a) σ G O (.refl G _) r ?_
          unfold RetRep
          rw [if_pos rfl]
          refine ⟨c, a, ?_, rfl, h3, h4, h6, .inl h5⟩
          cases c <;> first | (cases e2; done) | (cases e2; rfl)
  | _ => exact gen fun s => rfl
theorem s_ife {i : T} {a b : List S} {c : Expr} {x y : List Stmt} {pos : Pos} (hc : TOk W wx X P i c) (ha : PSs X x (tS W wx (execs P a))) (hb : PSs X y (tS W wx (execs P b))) : PS X (.If c x y pos) (tS W wx (exec P (.ife i a b))) := ps_weak (ps_if hc.pt ha hb) fun D σ H q => by
  obtain ⟨G, O, s, e, r, q⟩ := q
  refine ⟨G, O, s, e, r, ?_⟩
  simp only [exec] at q
  refine Out.then q fun a s1 _ x G1 O1 fr r1 rr q1 => ?_
  have rr : a = x := rr
  subst rr
  split at q1
  · rename_i ec
    rw [if_pos ec]
    exact ⟨G1, O1, s1, rfl, r1, q1⟩
  · rename_i ec
    rw [if_neg ec]
    exact ⟨G1, O1, s1, rfl, r1, q1⟩
theorem whileL_n {c : Sta → Res Bool} {body : Sta → RS} {s : Sta} (h : whileL c body s ≠ .stuck) : ∃ n, whileL c body s = whileN c body n s := by
  unfold whileL at h ⊢
  split
  · exact ⟨_, rfl⟩
  · rename_i hn
    rw [dif_neg hn] at h
    exact absurd rfl h
theorem s_whl {i : T} {b : List S} {c : Expr} {y : List Stmt} {pos : Pos} (hS : PassesOwn (model X.prog X.w) X.A X.env X.xe) (hc : TOk W wx X P i c) (hb : PSs X y (tS W wx (execs P b))) : PS X (.While c y [] pos) (tS W wx (exec P (.whl i b))) := ps_weak (ps_while hS hc.pt hb) fun D σ H q => by
  obtain ⟨G, O, s, e, r, q⟩ := q
  simp only [exec] at q
  have hne : whileL (evt P i) (execs P b) s ≠ .stuck := fun z => by rw [z] at q; exact q
  obtain ⟨n, hn⟩ := whileL_n hne
  rw [hn] at q
  refine ⟨fun m σ H => ∃ (G : Gh) (O : List (Option Addr)) (s : Sta), G.H = H ∧ StRep W G s σ O ∧ OutS W wx G O D (whileN (evt P i) (execs P b) m s), ⟨n, G, O, s, e, r, q⟩, ?_⟩
  rintro m σ H ⟨G, O, s, e, r, q⟩
  cases m with
  | zero => exact q.elim
  | succ m =>
    simp only [whileN] at q
    refine ⟨G, O, s, e, r, ?_⟩
    refine Out.then q fun a s1 _ x G1 O1 fr r1 rr q1 => ?_
    have rr : a = x := rr
    subst rr
    split at q1
    · rename_i ec
      rw [if_pos ec]
      refine ⟨fun σ' H' => ∃ (G : Gh) (O : List (Option Addr)) (s : Sta), G.H = H' ∧ StRep W G s σ' O ∧ OutS W wx G O D (whileN (evt P i) (execs P b) m s), fun σ' H' w => ⟨m, Nat.lt_succ_self m, w⟩, G1, O1, s1, rfl, r1, ?_⟩
      cases e2 : execs P b s1 with
      | next s2 => rw [e2] at q1; exact fun σ' G' O' f' r' => ⟨G', O', s2, rfl, r', OutS.shift f' q1⟩
      | cnt s2 => rw [e2] at q1; exact fun σ' G' O' f' r' => ⟨G', O', s2, rfl, r', OutS.shift f' q1⟩
      | brk s2 => rw [e2] at q1; exact q1
      | ret o d s2 => rw [e2] at q1; exact q1
      | exn y s2 => rw [e2] at q1; exact q1
      | stuck => rw [e2] at q1; exact q1
    · rename_i ec
      rw [if_neg ec]
      exact q1 σ G1 O1 (.refl G1 _) r1
theorem s_fr {tg : Tg} {i : It} {b : List S} {tE ie : Expr} {y : List Stmt} {pos : Pos} (C : Cok W nm t k wx N sc ws X) (hS : PassesOwn (model X.prog X.w) X.A X.env X.xe) (hi : PI X tE ie (tI W wx (evit P i))) (hg : PG X tE (tG W tg)) (hb : PSs X y (tS W wx (execs P b))) (hs : notSet ie = true) :
    PS X (.For tE ie y [] pos) (tS W wx (exec P (.fr tg i b))) := ps_weak (ps_for hS C.calm hi hg hb (fold_of hs)) fun D σ H q => by
  obtain ⟨G, O, s, e, r, q⟩ := q
  refine ⟨G, O, s, e, r, ?_⟩
  simp only [exec] at q
  refine Out.then q fun ds s1 _ J G1 O1 fr r1 rr q1 => ?_
  have rr : JOk W G1 ds J := rr
  generalize hbody : (fun (d : Z.D) (s2 : Sta) => match assign tg d s2.σ with
      | some σ' => execs P b { s2 with σ := σ' }
      | none => RS.stuck) = body at q1
  let inv : Nat → L2.St → Hp → Prop := fun j σ H => ∃ (G' : Gh) (O' : List (Option Addr)) (s' : Sta), G'.H = H ∧ StRep W G' s' σ O' ∧ Frm G1 (Z.ow O1) G' (Z.ow O') ∧ OutS W wx G' O' D (forL body (ds.drop j) s')
  refine ⟨fun j m σ H => m = ds.length - j ∧ j ≤ ds.length ∧ inv j σ H, ⟨ds.length, by simp, Nat.zero_le _, G1, O1, s1, rfl, r1, .refl G1 _, q1⟩, ?_⟩
  rintro j m σ H ⟨rfl, hj, G', O', s', rfl, r', f', q'⟩
  by_cases hlt : j < ds.length
  · refine .inr ⟨rr.go G' j f'.keep hlt, inv (j + 1), fun σ' H' p' => ⟨ds.length - (j + 1), by omega, rfl, hlt, p'⟩, fun x H' yy => ?_⟩
    obtain ⟨d, hd⟩ : ∃ d, ds[j]? = some d := ⟨_, List.getElem?_eq_getElem hlt⟩
    obtain ⟨G2, rfl, ex, rx⟩ := rr.yld G' j d x H' f'.keep r'.dom hd yy
    have r2 := r'.ext ex
    have f2 := r'.fr ex
    have hdrop : ds.drop j = d :: ds.drop (j + 1) := by
      rw [List.drop_eq_getElem_cons hlt]
      rw [List.getElem?_eq_getElem hlt] at hd
      cases hd; rfl
    rw [hdrop] at q'
    simp only [forL] at q'
    have eb : body d s' = match assign tg d s'.σ with
      | some σ' => execs P b { s' with σ := σ' }
      | none => RS.stuck := by rw [← hbody]
    rw [eb] at q'
    cases ea : assign tg d s'.σ with
    | none => rw [ea] at q'; exact q'.elim
    | some z =>
      rw [ea] at q'
      simp only at q'
      refine ⟨G2, O', s', d, z, rfl, r2, rx, ea, fun σ2 O2 r3 f3 n3 l3 => ?_⟩
      refine ⟨G2, O2, { s' with σ := z }, rfl, r3, ?_⟩
      have f3' := f2.trans f3
      cases e2 : execs P b { s' with σ := z } with
      | next s2 =>
        rw [e2] at q'
        exact fun σ' G' O' f4 r4 => ⟨G', O', s2, rfl, r4, f'.trans (f3'.trans f4), OutS.shift (f3'.trans f4) q'⟩
      | cnt s2 =>
        rw [e2] at q'
        exact fun σ' G' O' f4 r4 => ⟨G', O', s2, rfl, r4, f'.trans (f3'.trans f4), OutS.shift (f3'.trans f4) q'⟩
      | brk s2 => rw [e2] at q'; exact OutS.shift (D := D) (r := .next s2) f3' q'
      | ret o d s2 => rw [e2] at q'; exact OutS.shift (D := D) (r := .ret o d s2) f3' q'
      | exn y s2 => rw [e2] at q'; exact OutS.shift (D := D) (r := .exn y s2) f3' q'
      | stuck => rw [e2] at q'; exact q'
  · have e : j = ds.length := by omega
    subst e
    refine .inl ⟨rr.stop G' _ f'.keep (Nat.le_refl _), ?_⟩
    rw [List.drop_length] at q'
    exact q' σ G' O' (.refl G' _) r'
/-! ### stores -/
theorem s_set {i : Nat} {x : Str} {j : E} {e : Expr} {py pos : Pos} (C : Cok W nm t k wx N sc ws X) (hx : N[i]? = some x) (hl : locB ws x = true) (h : PE X e (tE W wx (ev P j))) (hn : notComp e = true) : PS X (.Assign [.Name x py] e pos) (tS W wx (exec P (.set i j))) := by
  obtain ⟨l1, l2⟩ := C.locW hl
  refine ps_weak (ps_set (by rw [C.eN]; exact C.nd) (by rw [C.eN]; exact hx) l1 h (swap_of hn) l2) fun D σ H q => ?_
  obtain ⟨G, O, s, e, r, q⟩ := q
  refine ⟨G, O, s, e, r, ?_⟩
  simp only [exec] at q
  cases e1 : ev P j s with
  | stuck => rw [e1] at q; exact q
  | exn y s1 => rw [e1] at q; exact fun G' O' fr sr => q σ G' O' fr sr
  | ok x s1 =>
    rw [e1] at q
    exact fun v G1 O1 fr r1 rr => bind_end fr r1 rr q
theorem s_setLc {i : Nat} {x : Str} {py pos ppos : Pos} {tg : Tg} {vs : List Nat} {it : It} {ifs : List T} {y : E} {elt te ie : Expr} {ce : List Expr} {scope : Scope} (C : Cok W nm t k wx N sc ws X) (hx : N[i]? = some x) (hl : localB sc x = true)
    (hk : X.env.scope.kind = .function) (hln : (py.line == ppos.line) = true) (hnot : (scope.names.any fun (n, k) => n == x && (k == .local || k == .cell)) = false)
    (hi : PI X te ie (tI W wx (evit P it))) (hb : BlkOk X.N X.env.scope scope (vs.map fun v => (N.getD v Str.empty, v))) (hsub : ∀ v ∈ tgv tg, v ∈ vs)
    (hg : ∀ (s : Shared) (H : Hp) (C' : Addr) (cl : List (Str × Addr)) (fp : List Addr), PG (X.blk s H scope (compEnvC scope cl C' X.env) fp) te (tG W tg)) (ht : ∀ (s : Shared) (H : Hp) (C' : Addr) (cl : List (Str × Addr)) (fp : List Addr), PTs (X.blk s H scope (compEnvC scope cl C' X.env) fp) ce (tB W wF (evts P ifs)))
    (he : ∀ (s : Shared) (H : Hp) (C' : Addr) (cl : List (Str × Addr)) (fp : List Addr), PE (X.blk s H scope (compEnvC scope cl C' X.env) fp) elt (tV W wF (ev P y))) (hs : notSet ie = true) :
    PS X (.Assign [.Name x py] (.ListComp elt [⟨te, ie, ce, 0⟩] scope ppos) pos) (tS W wx (exec P (.set i (.comp tg vs it ifs y)))) := by
  have hxl : X.env.scope.names.lookup x = some .local := by
    rw [C.eS]
    unfold localB at hl
    split at hl
    · assumption
    · cases hl
  have own : (vs.map fun v => (N.getD v Str.empty, v)).map (·.2) = vs := by
    rw [List.map_map]
    exact List.map_id vs
  refine ps_weak (ps_setLc (g := tG W tg) (tt := tB W wF (evts P ifs)) (te := tV W wF (ev P y)) C.calm (by rw [C.eN]; exact C.nd) (by rw [C.eN]; exact hx) hxl (sw_true hk hxl hln hnot) hi hb hg ht he (fold_of hs)) fun D σ H q => ?_
  rw [own]
  refine lc_w hsub ?_
  obtain ⟨G, O, s, e, r, q⟩ := q
  refine ⟨G, O, s, e, r, ?_⟩
  have q : OutS W wx G O D ((ev P (.comp tg vs it ifs y) s).then fun x s1 => bindTo i x.1 x.2 s1) := q
  cases e1 : ev P (.comp tg vs it ifs y) s with
  | stuck => rw [e1] at q; exact q
  | exn y s1 => rw [e1] at q; exact fun G' O' fr sr => q σ G' O' fr sr
  | ok x s1 =>
    rw [e1] at q
    exact fun v G1 O1 fr r1 rr => bind_end fr r1 rr q
theorem s_setT {tg : Tg} {j : E} {tE' e : Expr} {pos : Pos} (hg : PG X tE' (tG W tg)) (htu : isTupE tE' = true) (hnt : isTupE e = false) (hnl : notComp e = true) (h : EOk W wx X P j e) : PS X (.Assign [tE'] e pos) (tS W wx (exec P (.setT tg j))) := by
  obtain ⟨es, kk, p, rfl⟩ := isTup_of htu
  refine ps_weak (ps_asg h.pv hg (by cases e <;> first | rfl | cases hnl) (by cases e <;> first | rfl | cases hnt) rfl) fun D σ H q => ?_
  obtain ⟨G, O, s, e, r, q⟩ := q
  refine ⟨G, O, s, e, r, ?_⟩
  simp only [exec] at q
  refine Out.then q fun a s1 _ x G1 O1 fr r1 rr q1 => ?_
  cases ea : assign tg a.2 s1.σ with
  | none => rw [ea] at q1; exact q1.elim
  | some z =>
    rw [ea] at q1
    exact ⟨G1, O1, s1, a.2, z, rfl, r1, rr, ea, fun σ' O' r2 f2 _ _ => q1 σ' G1 O' f2 r2⟩
def rAug (op : Operator) : TIp := fun x z H Q => ∃ i j, x = .int i ∧ z = .int j ∧ match op with
  | .Add => Q (.int (i + j)) H
  | .Sub => Q (.int (i - j)) H
  | _ => False
theorem ip_Z (op : Operator) : PIp X op (rAug op) := by
  intro pins s σ H x y v u Q I rx ry q
  obtain ⟨i, j, rfl, rfl, q⟩ := q
  cases op <;> first | exact q.elim | skip
  · exact ip_add pins s σ H _ _ v u Q I rx ry ⟨i, j, rfl, rfl, q⟩
  · exact ip_sub pins s σ H _ _ v u Q I rx ry ⟨i, j, rfl, rfl, q⟩
theorem aug_Z {op : Operator} {d y r : D} {G : Gh} {x z : V} {Q : VK} (hx : Rep W G d x) (hz : Rep W G y z) (e : augD op d y = some r) (q : ∀ v, Rep W G r v → Q v G.H) : rAug op x z G.H Q := by
  cases d <;> cases y <;> cases op <;> first | (cases e; done) | skip
  all_goals
    cases e
    cases repw_int hx.w
    cases repw_int hz.w
    exact ⟨_, _, rfl, rfl, q _ rep_int⟩
theorem s_aug {i : Nat} {x : Str} {j : E} {e : Expr} {op : Operator} {py pos : Pos} (C : Cok W nm t k wx N sc ws X) (hx : N[i]? = some x) (hl : locB ws x = true) (h : EOk W wx X P j e) : PS X (.AugAssign (.Name x py) op e pos) (tS W wx (exec P (.aug i op j))) := by
  obtain ⟨l1, l2⟩ := C.locW hl
  refine ps_weak (ps_aug (by rw [C.eN]; exact C.nd) (by rw [C.eN]; exact hx) l1 h.pv (ip_Z op) l2) fun D σ H q => ?_
  obtain ⟨G, O, s, e, r, q⟩ := q
  simp only [exec] at q
  cases e1 : s.σ[i]? with
  | none => rw [e1] at q; exact q.elim
  | some x =>
    rw [e1] at q
    cases x with
    | no => exact q.elim
    | own c => exact q.elim
    | sh d =>
      obtain ⟨v, o, h1, h2, _, y, rfl, ry⟩ := r.slots i _ e1
      refine ⟨y, h1, G, O, s, e, r, ?_⟩
      refine Out.then q fun a s1 _ x G1 O1 fr r1 rr q1 => ?_
      cases ea : augD op d a.2 with
      | none => rw [ea] at q1; exact q1.elim
      | some z =>
        rw [ea] at q1
        exact aug_Z (Rep.keep fr.keep _ _ ry) rr ea fun v rv => bind_end (.refl G1 _) r1 (show RO W G1 O1 G1 O1 s1 (false, z) v from ro_val rv) q1
end
end Z

set_option Elab.async false
set_option linter.all false
set_option maxRecDepth 100000
set_option maxHeartbeats 4000000
set_option autoImplicit false
/-! ZSnd10: items stored, exceptions. -/
namespace Z
open PySem PySem.Spec PyProof.Rows L2
section
variable {W : Wo} {G : Gh}
theorem rep_rep {x : Key} {d : D} {v : V} (hd : Rep W G d v) : ∀ (kvs : List (Key × V)) (us : List D), Reps W G us (kvs.map (·.2)) → Reps W G (repD (kvs.map fun p => kD p.1) us (kD x) d) ((kvs.map fun kv => if kv.1 = x then (kv.1, v) else kv).map (·.2))
  | [], us, h => by
    have : us = [] := by
      cases us with
      | nil => rfl
      | cons a b => simp [Reps] at h
    subst this
    simp [repD, Reps]
  | (k', v') :: r, us, h => by
    cases us with
    | nil => simp [Reps] at h
    | cons e es =>
      simp only [Reps, List.map_cons] at h
      obtain ⟨v1, r1, e1, h1, h2⟩ := h
      cases e1
      simp only [List.map_cons, repD, kD_eqv, Reps]
      refine ⟨_, _, rfl, ?_, rep_rep hd r es h2⟩
      by_cases q : k' = x
      · rw [decide_eq_true q, if_pos rfl, if_pos q]; exact hd
      · rw [decide_eq_false q, if_neg Bool.false_ne_true, if_neg q]; exact h1
theorem put_rep {x : Key} {d : D} {v : V} (hd : Rep W G d v) {kvs : List (Key × V)} {us : List D} (h : Reps W G us (kvs.map (·.2))) :
    (putD (kvs.map fun p => kD p.1) us (kD x) d).1 = (putK kvs x v).map (fun p => kD p.1) ∧ Reps W G (putD (kvs.map fun p => kD p.1) us (kD x) d).2 ((putK kvs x v).map (·.2)) := by
  unfold putD putK
  rw [valV_any]
  rcases look_rep x kvs us h with ⟨h1, h2⟩ | ⟨d', v', h1, h2, _⟩
  · rw [h1, h2]
    simp only [Option.isSome_none, Bool.false_eq_true, if_false]
    refine ⟨by simp, ?_⟩
    rw [List.map_append]
    exact h.append (.one hd)
  · rw [h1, h2]
    simp only [Option.isSome_some, if_true]
    refine ⟨?_, rep_rep hd kvs us h⟩
    rw [List.map_map]
    apply List.map_congr_left
    intro p _
    show kD p.1 = kD (if p.1 = x then (p.1, v) else p).1
    split <;> rfl
def rPutZ (W : Wo) : TSet := fun o i v H Q => ∃ (G : Gh) (a : Addr) (c c' : Cell) (k d : D), G.H = H ∧ o = .ref a ∧ CRep W G c a ∧ ¬ G.F a ∧ Rep W G k i ∧ Rep W G d v ∧ putC c k d = some c' ∧
  ∀ o', (Keep G ⟨upd G.H a o', G.F, G.M⟩ → CRep W ⟨upd G.H a o', G.F, G.M⟩ c' a) → Q (upd H a o')
theorem put_Z {X : Cx} (hu : X.A.units + 1 < cLine) : PSet X (rPutZ W) := by
  intro pins s σ H o i v ov iv u Q I ro ri rv h
  obtain ⟨G, a, c, c', k, d, rfl, rfl, hc, nf, hk, hd, e, q⟩ := h
  cases c with
  | L ds =>
    cases k with
    | int j =>
      simp only [putC] at e
      cases e1 : ixN ds.length j with
      | none => rw [e1] at e; cases e
      | some m =>
        rw [e1] at e
        cases e
        cases repw_int hk.w
        obtain ⟨ws, h1, h2⟩ := hc
        refine set_list pins s σ _ _ _ v ov iv u Q I ro ri rv ⟨a, ws, j, m, rfl, rfl, h1, by rw [h2.len]; exact e1, q _ fun kp => ⟨_, upd_same, (Reps.keep kp _ _ h2).set m (Rep.keep kp _ _ hd)⟩⟩
    | _ => cases e
  | M ks us =>
    have e : (if keyOk k = true ∧ ks.length < LIM then some (Cell.M (putD ks us k d).1 (putD ks us k d).2) else none) = some c' := by
      cases k <;> exact e
    split at e
    · rename_i hh
      cases e
      obtain ⟨kvs, h1, rfl, h2⟩ := hc
      obtain ⟨x, rfl, rfl⟩ := key_rep hk.w hh.1
      refine set_dict hu pins s σ _ _ _ v ov iv u Q I ro ri rv ⟨a, _, rfl, DPut.k h1 (by rw [← lim_line]; simpa using hh.2), q _ fun kp => ?_⟩
      obtain ⟨p1, p2⟩ := put_rep (x := x) (Rep.keep kp _ _ hd) (Reps.keep kp _ _ h2)
      exact ⟨_, upd_same, p1, p2⟩
    · cases e
  | I c fs => cases k <;> cases e
end
section
variable {W : Wo} {wx : WX} {X : Cx} {P : Prog} {nm : Nm} {t : Tbl} {k : Nat} {N : List Str} {sc ws : Scope}
theorem s_put {o kk j : E} {oe ke e : Expr} {p pos : Pos} (C : Cok W nm t k wx N sc ws X) (ho : EOk W wx X P o oe) (hk : EOk W wx X P kk ke) (h : EOk W wx X P j e) (hn : notComp e = true) (hp : plainIxB ke = true) : PS X (.Assign [.Subscript oe ke p] e pos) (tS W wx (exec P (.put o kk j))) := by
  have u65 := units64 C.room
  refine ps_weak (ps_asg h.pv (pg_sub ho.pp hk.pv (put_Z (W := W) (X := X) (by omega)) (by intro v; cases ke <;> first | rfl | cases hp)) (by cases e <;> first | rfl | cases hn) rfl rfl) fun D σ H q => ?_
  obtain ⟨G, O, s, e, r, q⟩ := q
  refine ⟨G, O, s, e, r, ?_⟩
  simp only [exec] at q
  refine Out.then q fun x s1 _ v G1 O1 fr r1 rr q1 => ⟨G1, O1, s1, rfl, r1, ?_⟩
  refine Out.then q1 fun pl s2 _ ov G2 O2 fr2 r2 rr2 q2 => ⟨G2, O2, s2, rfl, r2, ?_⟩
  refine Out.then q2 fun i s3 _ iv G3 O3 fr3 r3 rr3 q3 => ?_
  obtain ⟨a, rfl, hpl⟩ := rr2
  have hpl := plRep_keep fr3.keep hpl
  have rx : Rep W G3 x.2 v := Rep.keep (fr2.trans fr3).keep _ _ rr
  have ri : Rep W G3 i.2 iv := rr3
  cases e1 : pl.get s3 with
  | none => rw [e1] at q3; exact q3.elim
  | some c =>
    rw [e1] at q3
    simp only at q3
    cases e2 : putC c i.2 x.2 with
    | none => rw [e2] at q3; exact q3.elim
    | some c' =>
      rw [e2] at q3
      obtain ⟨h1, h2, h3⟩ := place_at r3 e1 hpl
      refine ⟨G3, a, c, c', i.2, x.2, rfl, rfl, h1, h2, ri, rx, e2, fun o' new => ?_⟩
      obtain ⟨r4, f4⟩ := place_set r3 e1 hpl new
      exact q3 σ _ O3 f4 r4
/-- an own exception without __init__ -/
def raiseS : Expr → Option Str
  | .Call (.Name x _) [.Constant (.str _) _ _] [] _ => some x
  | _ => none
theorem s_rais {c : Nat} {x : Str} {e : Expr} {pos : Pos} (C : Cok W nm t k wx N sc ws X) (hr : raiseS e = some x) (hx : nm.ex[c]? = some x) (hc : c ∈ nm.own) (hg : glB sc x = true) (hd : okName x = true) : PS X (.Raise (some e) none pos) (tS W wx (exec P (.rais c []))) := by
  unfold raiseS at hr
  split at hr
  · rename_i x' p m j p2 pos'
    cases hr
    obtain ⟨A, h1, h2, h3, h4, h5, h6⟩ := C.exc.cls c x hx
    obtain ⟨bmB, B, newId, initId, F, q⟩ := C.exc.own c A hc h1
    have hdb : (x == ("__debug__" : Str)) = false := by
      simp only [okName, Bool.and_eq_true, Bool.not_eq_true'] at hd
      exact hd.1.1
    refine ps_weak (ps_raise C.calm C.tk (pmk_own F q h2 h3 (raises_own h4 h5) (C.gl hg) hdb)) fun D σ H q => ?_
    obtain ⟨G, O, s, rfl, r, q⟩ := q
    exact q σ G O (.refl G _) r (.ref A) none ⟨A, h1, rfl, .inl ⟨rfl, rfl⟩⟩
  · cases hr
/-! ### try -/
theorem Cok.tr (C : Cok W nm t k wx N sc ws X) {wx' : WX} {pn : List (Addr × Obj)} {xe : Value → Shared → Prop} (tk : Takes (X.tr pn xe) wx') : Cok W nm t k wx' N sc ws (X.tr pn xe) where
  eK := C.eK
  eN := C.eN
  nd := C.nd
  eS := C.eS
  calm := C.calm
  room := C.room
  tk := tk
  flen := C.flen
  fns := fun f fn h => ⟨(C.fns f fn h).ex⟩
  gls := C.gls
  blt := C.blt
  fa := C.fa
  exc := C.exc
  wr := C.wr
/-- the suite «return isinstance(e, C2)» -/
def tSuIsi (W : Wo) (K : PySem.W.Frag) (i : Nat) (C2 : Addr) : Addr → Value → Option Addr → TS := fun a cls d D σ H => ∃ (c' : Nat) (C' : Addr), cls = .ref C' ∧ d = none ∧ W.xa c' = some C' ∧ tRet (tCB (rIsE K C' a) (tCons (tVar i) (tCons (tC (.ref C2)) tNil))) D σ H
theorem s_tryIsi {b : List S} {c c2 i : Nat} {body : List Stmt} {x x2 n : Str} {ie ee ce : Expr} {np rp cp pos' pos : Pos} (C : Cok W nm t k wx N sc ws X) (hS : Sok X) (hi : N[i]? = some n) (hln : localB sc n = true) (hx : nm.ex[c]? = some x) (hgx : glB sc x = true) (hdx : okName x = true)
    (hx2 : isGl nm.ex sc c2 ce = true) (hie : isBlt sc "isinstance" ie = true) (hee : isVar N sc i ee = true)
    (hb : ∀ (wx' : WX) (X' : Cx), Cok W nm t k wx' N sc ws X' → Sok X' → PSs X' body (tS W wx' (execs (prog t k) b))) :
    PS X (.Try body [.ExceptHandler (some (.Name x np)) (some n) [.Return (some (.Call ie [ee, ce] [] cp)) rp] pos'] [] [] pos) (tS W wx (exec (prog t k) (.tryE b c i (.isi c2)))) := by
  obtain ⟨A, h1, h2, h3, h4, h5, h6⟩ := C.exc.cls c x hx
  obtain ⟨q, rfl, ig, im⟩ := C.blt1 hie (by decide)
  obtain ⟨ex, ep, rfl, e1, e2, e3, e4⟩ := isVar_of C hee
  obtain ⟨x2, p2, rfl, c1, cg, c3⟩ := isGl_of C hx2
  obtain ⟨A2, g1, g2, g3, g4, g5, g6⟩ := C.exc.cls c2 x2 c1
  have hdb : (x == ("__debug__" : Str)) = false := by
    simp only [okName, Bool.and_eq_true, Bool.not_eq_true'] at hdx
    exact hdx.1.1
  have hkn : X.env.kindOf n = some .local := by
    rw [C.kind]
    unfold localB at hln
    split at hln
    · assumption
    · cases hln
  have sK : ∀ {a : Addr} {oe : Obj} {cls : Value} {d : Option Addr} {pn : List (Addr × Obj)}, Zc cls d oe → (∃ vs, oe.data = .fields vs) → PSs (X.suite a ((a, oe) :: pn)) [.Return (some (.Call (.Name (Str.ofString "isinstance") q) [.Name ex ep, .Name x2 p2] [] cp)) rp] (tSuIsi W X.K i A2 a cls d) := fun {a oe cls d pn} hz hf => ⟨fun pins s σ H D I h => by
    obtain ⟨c', C', rfl, rfl, hC', h⟩ := h
    have hEx : ExcC X.K C' := by
      obtain ⟨y, hy⟩ := C.exc.xa c' C' hC'
      obtain ⟨A', z1, _, _, _, _, z6⟩ := C.exc.cls c' y hy
      rw [hC'] at z1; cases z1
      exact z6
    have pe : PE (X.suite a ((a, oe) :: pn)) (.Name ex ep) (tVar i) := pe_var (X := X.suite a ((a, oe) :: pn)) e1 e2 e3 e4
    have pc : PE (X.suite a ((a, oe) :: pn)) (.Name x2 p2) (tC (.ref A2)) := pe_glob (X := X.suite a ((a, oe) :: pn)) (v := .ref A2) cg g2 rfl c3
    exact (pss_one (ps_ret (pe_callB (X := X.suite a ((a, oe) :: pn)) (call_isE hEx hz hf) ig im PyProof.Rows.boot_isinstance (pa_cons pe (pa_cons pc pa_nil)) (by decide +kernel) (by decide +kernel)))).run pins s σ H D I h⟩
  refine ps_weak (ps_try_as (i := i) (c := .ref A) (tb := fun wx' => tS W wx' (execs (prog t k) b)) (ts := tSuIsi W X.K i A2) (Wout := wx) hS.stk hS.frm (by rw [C.eN]; exact C.nd) (by rw [C.eN]; exact hi) hkn ⟨C.gl hgx, hdb, .inl h2⟩ C.tk
    (fun wx' pn xe tk pa => hb wx' _ (C.tr tk) ⟨pa, hS.stk, hS.frm⟩) fun a oe cls d pn hz hf => sK hz hf) fun D σ H q => ?_
  obtain ⟨G, O, s, e, r, q⟩ := q
  refine ⟨G, O, s, e, r, ?_⟩
  simp only [exec] at q
  cases e5 : execs (prog t k) b s with
  | next s1 => rw [e5] at q; exact q
  | brk s1 => rw [e5] at q; exact q
  | cnt s1 => rw [e5] at q; exact q
  | ret o d s1 => rw [e5] at q; exact q
  | stuck => rw [e5] at q; exact q
  | exn y s1 =>
    rw [e5] at q
    obtain ⟨c', ds⟩ := y
    intro σ' G' O' fr sr cls dx xr
    obtain ⟨C', w1, rfl, w2⟩ := xr
    obtain ⟨k1, k2⟩ := C.exc.sub c c' A C' h1 w1
    obtain ⟨_, k3⟩ := C.exc.sub c2 c' A2 C' g1 w1
    refine ⟨_, k1, fun hb1 a na => ?_, fun hb1 => ?_⟩
    · simp only at q
      rw [if_pos (show (prog t k).sub c' c = true from hb1)] at q
      cases ds with
      | cons d ds => exact q.elim
      | nil =>
        have dn : dx = none := by
          rcases w2 with w2 | ⟨_, _, _, w2, _⟩
          · exact w2.1
          · exact absurd rfl w2
        subst dn
        simp only [suiteD, List.isEmpty_nil, if_true] at q
        split at q
        · rename_i hlt
          have hlt : i < σ'.length := by rw [sr.len]; exact hlt
          refine ⟨c', C', rfl, rfl, w1, V.ref a, ?_, V.ref A2, Value.ref A2, t.sub c' c2, rfl, fun u h => h, k3, ?_⟩
          · rw [List.getElem?_set_self hlt]
          · exact q (.bl (t.sub c' c2)) σ' G' O' fr sr (show Rep W G' (.bl (t.sub c' c2)) (.bl (t.sub c' c2)) from rep_bl)
        · exact q.elim
    · simp only at q
      rw [if_neg (by rw [show (prog t k).sub c' c = t.sub c' c from rfl, hb1]; decide)] at q
      exact q σ' G' O' fr sr _ _ ⟨C', w1, rfl, w2⟩
end
end Z

set_option Elab.async false
set_option linter.all false
set_option maxRecDepth 100000
set_option maxHeartbeats 4000000
set_option autoImplicit false
/-! ZSnd11: what is checked is so: statements. -/
namespace Z
open PySem PySem.Spec PyProof.Rows L2
def isCompI : E → Bool
  | .comp _ _ _ _ _ => true
  | _ => false
/-- name = [.. for ..] on one line -/
def setLcOk (sc : Scope) (x : Str) (py : Pos) : Expr → Bool
  | .ListComp _ _ scope ppos => localB sc x && (match sc.kind with | .function => true | _ => false) && (py.line == ppos.line) && !(scope.names.any fun (n, k) => n == x && (k == .local || k == .cell))
  | _ => false
def emptyEs : List E → Bool
  | [] => true
  | _ => false
mutual
def chkS (n : Nm) (N : List Str) (sc : Scope) : Stmt → S → Bool
  | st, .set i j => match st with
    | .Assign [.Name x py] v _ => decide (N[i]? = some x) && locB sc x && chkE n N sc v j && (notComp v || (isCompI j && setLcOk sc x py v))
    | _ => false
  | st, .setT tg j => match st with
    | .Assign [te] v _ => chkTg N sc te tg && isTupE te && !isTupE v && notComp v && chkE n N sc v j
    | _ => false
  | st, .aug i op j => match st with
    | .AugAssign (.Name x _) o v _ => decide (o = op) && decide (N[i]? = some x) && locB sc x && chkE n N sc v j
    | _ => false
  | st, .put o k j => match st with
    | .Assign [.Subscript oe ke _] v _ => chkE n N sc oe o && chkE n N sc ke k && chkE n N sc v j && notComp v && plainIxB ke
    | _ => false
  | _, .putA _ _ _ _ => false
  | _, .fset _ _ _ => false
  | _, .fsetA _ _ _ _ => false
  | st, .ret j => match st with
    | .Return (some v) _ => chkE n N sc v j
    | _ => false
  | st, .retN => match st with
    | .Return none _ => true
    | _ => false
  | st, .ife c a b => match st with
    | .If ce x y _ => chkT n N sc ce c && chkSs n N sc x a && chkSs n N sc y b
    | _ => false
  | st, .whl c b => match st with
    | .While ce y [] _ => chkT n N sc ce c && chkSs n N sc y b
    | _ => false
  | st, .fr tg it b => match st with
    | .For te ie y [] _ => chkIt n N sc ie it && itTg it te && chkTg N sc te tg && chkSs n N sc y b && notSet ie
    | _ => false
  | st, .brk => match st with
    | .Break _ => true
    | _ => false
  | st, .cnt => match st with
    | .Continue _ => true
    | _ => false
  | st, .pass => match st with
    | .Pass _ => true
    | _ => false
  | st, .exp j => match st with
    | .Expr v _ => chkE n N sc v j && notComp v
    | _ => false
  | st, .rais c es => match st with
    | .Raise (some e) none _ => emptyEs es && (match raiseS e with
      | some x => decide (n.ex[c]? = some x) && decide (c ∈ n.own) && glB sc x && okName x
      | none => false)
    | _ => false
  | st, .tryE b c i su => match su with
    | .isi c2 => match st with
      | .Try body [.ExceptHandler (some (.Name x _)) (some nn) [.Return (some (.Call ie [ee, ce] [] _)) _] _] [] [] _ =>
        decide (N[i]? = some nn) && localB sc nn && decide (n.ex[c]? = some x) && glB sc x && okName x && isGl n.ex sc c2 ce && isBlt sc "isinstance" ie && isVar N sc i ee && chkSs n N sc body b
      | _ => false
    | _ => false
def chkSs (n : Nm) (N : List Str) (sc : Scope) : List Stmt → List S → Bool
  | [], [] => true
  | st :: sts, x :: xs => chkS n N sc st x && chkSs n N sc sts xs
  | _, _ => false
end
section
variable {W : Wo} {nm : Nm} {t : Tbl} {k : Nat} {N : List Str} {sc : Scope}
mutual
theorem sndS : ∀ (x : S) (st : Stmt) (wx : WX) (X : Cx), Cok W nm t k wx N sc sc X → Sok X → chkS nm N sc st x = true → PS X st (tS W wx (exec (prog t k) x))
  | .set i j, st, wx, X, C, hS, h => by
    rw [chkS.eq_def] at h
    simp only at h
    split at h
    · rename_i x py v pos
      simp only [Bool.and_eq_true, decide_eq_true_eq, Bool.or_eq_true] at h
      obtain ⟨⟨⟨h1, h2⟩, h3⟩, h4⟩ := h
      rcases h4 with h4 | ⟨h4, h5⟩
      · exact s_set C h1 h2 (sndE j v wx sc sc X C h3).pe h4
      · cases j with
        | comp tg vs it ifs y =>
          simp only [chkE] at h3
          split at h3
          · rename_i elt te ie ce kz scope ppos
            simp only [Bool.and_eq_true, beq_iff_eq, List.all_eq_true, decide_eq_true_eq] at h3
            obtain ⟨⟨⟨⟨⟨⟨⟨⟨⟨rfl, g1⟩, g2⟩, g3⟩, g4⟩, g5⟩, g6⟩, g7⟩, g8⟩, g9⟩ := h3
            simp only [setLcOk, Bool.and_eq_true, Bool.not_eq_true'] at h5
            obtain ⟨⟨⟨l1, l2⟩, l3⟩, l4⟩ := h5
            have hb : BlkOk X.N X.env.scope scope (vs.map fun v => (N.getD v Str.empty, v)) := by
              rw [C.eN, C.eS]; exact blkOk_by g4
            refine s_setLc C h1 l1 ?_ l3 l4 (sndI it ie te wx sc sc X C g2 g1) hb g6 (fun s H C' cl fp => z_tg (C.blk s H scope C' cl fp) te tg g5) (fun s H C' cl fp => pts_of (sndTs ifs ce wF _ _ _ (C.blk s H scope C' cl fp) g7))
              (fun s H C' cl fp => (sndE y elt wF _ _ _ (C.blk s H scope C' cl fp) g8).pv) g3
            rw [C.eS]
            split at l2
            · assumption
            · cases l2
          · cases h3
        | _ => cases h4
    · cases h
  | .setT tg j, st, wx, X, C, hS, h => by
    rw [chkS.eq_def] at h
    simp only at h
    split at h
    · simp only [Bool.and_eq_true, Bool.not_eq_true'] at h
      exact s_setT (z_tg C _ tg h.1.1.1.1) h.1.1.1.2 h.1.1.2 h.1.2 (sndE j _ wx sc sc X C h.2)
    · cases h
  | .aug i op j, st, wx, X, C, hS, h => by
    rw [chkS.eq_def] at h
    simp only at h
    split at h
    · simp only [Bool.and_eq_true, decide_eq_true_eq] at h
      obtain ⟨⟨⟨rfl, h1⟩, h2⟩, h3⟩ := h
      exact s_aug C h1 h2 (sndE j _ wx sc sc X C h3)
    · cases h
  | .put o kk j, st, wx, X, C, hS, h => by
    rw [chkS.eq_def] at h
    simp only at h
    split at h
    · simp only [Bool.and_eq_true] at h
      exact s_put C (sndE o _ wx sc sc X C h.1.1.1.1) (sndE kk _ wx sc sc X C h.1.1.1.2) (sndE j _ wx sc sc X C h.1.1.2) h.1.2 h.2
    · cases h
  | .putA _ _ _ _, st, wx, X, C, hS, h => by rw [chkS.eq_def] at h; simp at h
  | .fset _ _ _, st, wx, X, C, hS, h => by rw [chkS.eq_def] at h; simp at h
  | .fsetA _ _ _ _, st, wx, X, C, hS, h => by rw [chkS.eq_def] at h; simp at h
  | .ret j, st, wx, X, C, hS, h => by
    rw [chkS.eq_def] at h
    simp only at h
    split at h
    · exact s_ret (sndE j _ wx sc sc X C h)
    · cases h
  | .retN, st, wx, X, C, hS, h => by
    rw [chkS.eq_def] at h
    simp only at h
    split at h
    · exact s_retN
    · cases h
  | .ife c a b, st, wx, X, C, hS, h => by
    rw [chkS.eq_def] at h
    simp only at h
    split at h
    · simp only [Bool.and_eq_true] at h
      exact s_ife (sndT c _ wx sc sc X C h.1.1) (sndSs a _ wx X C hS h.1.2) (sndSs b _ wx X C hS h.2)
    · cases h
  | .whl c b, st, wx, X, C, hS, h => by
    rw [chkS.eq_def] at h
    simp only at h
    split at h
    · simp only [Bool.and_eq_true] at h
      exact s_whl hS.pa (sndT c _ wx sc sc X C h.1) (sndSs b _ wx X C hS h.2)
    · cases h
  | .fr tg it b, st, wx, X, C, hS, h => by
    rw [chkS.eq_def] at h
    simp only at h
    split at h
    · simp only [Bool.and_eq_true] at h
      exact s_fr C hS.pa (sndI it _ _ wx sc sc X C h.1.1.1.2 h.1.1.1.1) (z_tg C _ tg h.1.1.2) (sndSs b _ wx X C hS h.1.2) h.2
    · cases h
  | .brk, st, wx, X, C, hS, h => by
    rw [chkS.eq_def] at h
    simp only at h
    split at h
    · exact s_brk
    · cases h
  | .cnt, st, wx, X, C, hS, h => by
    rw [chkS.eq_def] at h
    simp only at h
    split at h
    · exact s_cnt
    · cases h
  | .pass, st, wx, X, C, hS, h => by
    rw [chkS.eq_def] at h
    simp only at h
    split at h
    · exact s_pass
    · cases h
  | .exp j, st, wx, X, C, hS, h => by
    rw [chkS.eq_def] at h
    simp only at h
    split at h
    · simp only [Bool.and_eq_true] at h
      exact s_exp (sndE j _ wx sc sc X C h.1) h.2
    · cases h
  | .rais c es, st, wx, X, C, hS, h => by
    rw [chkS.eq_def] at h
    simp only at h
    split at h
    · simp only [Bool.and_eq_true] at h
      obtain ⟨h1, h2⟩ := h
      cases es with
      | cons e es => cases h1
      | nil =>
        split at h2
        · rename_i x hx
          simp only [Bool.and_eq_true, decide_eq_true_eq] at h2
          exact s_rais C hx h2.1.1.1 h2.1.1.2 h2.1.2 h2.2
        · cases h2
    · cases h
  | .tryE b c i su, st, wx, X, C, hS, h => by
    rw [chkS.eq_def] at h
    simp only at h
    split at h
    · split at h
      · simp only [Bool.and_eq_true, decide_eq_true_eq] at h
        obtain ⟨⟨⟨⟨⟨⟨⟨⟨h1, h2⟩, h3⟩, h4⟩, h5⟩, h6⟩, h7⟩, h8⟩, h9⟩ := h
        exact s_tryIsi (x2 := Str.empty) C hS h1 h2 h3 h4 h5 h6 h7 h8 fun wx' X' C' hS' => sndSs b _ wx' X' C' hS' h9
      · cases h
    · cases h
theorem sndSs : ∀ (xs : List S) (sts : List Stmt) (wx : WX) (X : Cx), Cok W nm t k wx N sc sc X → Sok X → chkSs nm N sc sts xs = true → PSs X sts (tS W wx (execs (prog t k) xs))
  | [], sts, wx, X, C, hS, h => by
    cases sts with
    | nil => exact s_nil
    | cons a b => rw [chkSs.eq_def] at h; simp at h
  | x :: xs, sts, wx, X, C, hS, h => by
    cases sts with
    | nil => rw [chkSs.eq_def] at h; simp at h
    | cons a b =>
      rw [chkSs.eq_def] at h
      simp only [Bool.and_eq_true] at h
      exact s_cons (sndS x a wx X C hS h.1) (sndSs xs b wx X C hS h.2)
end
end
end Z

set_option Elab.async false
set_option linter.all false
set_option maxRecDepth 100000
set_option maxHeartbeats 4000000
set_option autoImplicit false
/-! ZFun: every def keeps its promise. -/
namespace Z
open PySem PySem.Spec PyProof.Rows L2
section
variable {W : Wo} {G G' : Gh} {n : Nat}
def cutM (G : Gh) (n : Nat) : Gh := ⟨G.H, G.F, G.M.take n⟩
mutual
theorem Rep.cut : ∀ (d : D) (v : V), d.under n = true → Rep W G d v → Rep W (cutM G n) d v
  | .non, _, _, h => h
  | .bl _, _, _, h => h
  | .int _, _, _, h => h
  | .str _, _, _, h => h
  | .tup ds, v, u, h => by
    simp only [D.under] at u
    simp only [Rep] at h ⊢
    obtain ⟨a, vs, e, s, r⟩ := h
    exact ⟨a, vs, e, s, Reps.cutM ds vs u r⟩
  | .lst ds, v, u, h => by
    simp only [D.under] at u
    simp only [Rep] at h ⊢
    obtain ⟨a, vs, e, f, s, r⟩ := h
    exact ⟨a, vs, e, f, s, Reps.cutM ds vs u r⟩
  | .scr ns, v, u, h => by
    simp only [Rep] at h ⊢
    exact h
  | .dct ks us, v, u, h => by
    simp only [D.under, Bool.and_eq_true] at u
    simp only [Rep] at h ⊢
    obtain ⟨a, kvs, e, f, s, q, r⟩ := h
    exact ⟨a, kvs, e, f, s, q, Reps.cutM us _ u.2 r⟩
  | .ref m, v, u, h => by
    simp only [D.under, decide_eq_true_eq] at u
    simp only [Rep] at h ⊢
    obtain ⟨a, e, s⟩ := h
    refine ⟨a, e, ?_⟩
    show (G.M.take n)[m]? = some a
    rw [List.getElem?_take_of_lt u]; exact s
  | .fn f, v, u, h => by
    simp only [Rep] at h ⊢
    exact h
theorem Reps.cutM : ∀ (ds : List D) (vs : List V), unders n ds = true → Reps W G ds vs → Reps W (cutM G n) ds vs
  | [], _, _, h => h
  | d :: ds, vs, u, h => by
    simp only [unders, Bool.and_eq_true] at u
    simp only [Reps] at h ⊢
    obtain ⟨v, r, e, h1, h2⟩ := h
    exact ⟨v, r, e, Rep.cut d v u.1 h1, Reps.cutM ds r u.2 h2⟩
end
theorem FRep.cut : ∀ (fs : List (Nat × D)) (vs : List (Str × V)), (fs.all fun p => p.2.under n) = true → FRep W G fs vs → FRep W (cutM G n) fs vs
  | [], _, _, h => h
  | (f, d) :: r, vs, u, h => by
    simp only [List.all_cons, Bool.and_eq_true] at u
    obtain ⟨v, vr, e, h1, h2⟩ := h
    exact ⟨v, vr, e, Rep.cut d v u.1 h1, FRep.cut r vr u.2 h2⟩
theorem CRep.cut {c : Cell} {a : Addr} (u : c.under n = true) (h : CRep W G c a) : CRep W (cutM G n) c a := by
  cases c with
  | L ds =>
    obtain ⟨vs, e, r⟩ := h
    exact ⟨vs, e, Reps.cutM _ _ u r⟩
  | M ks us =>
    simp only [Cell.under, Bool.and_eq_true] at u
    obtain ⟨kvs, e, q, r⟩ := h
    exact ⟨kvs, e, q, Reps.cutM _ _ u.2 r⟩
  | I c fs =>
    obtain ⟨C, dx, fvs, e0, e, r⟩ := h
    exact ⟨C, dx, fvs, e0, e, FRep.cut _ _ u r⟩
/-- what a body leaves behind is told to who called -/
theorem gc_ok {G G' : Gh} {o' : List Addr} {S' : List Cell} (c : CsRep W G' S') (f : Frm G [] G' o') (hn : G.M.length = n) (ds : List D) :
    ∃ G2 : Gh, G2.H = G'.H ∧ G2.F = G'.F ∧ (∀ a, a ∈ G2.M → a ∈ G'.M) ∧ FrF G G2 ∧ CsRep W G2 (gc n ds S') ∧ (G2 = G' ∨ (G2 = cutM G' n ∧ unders n ds = true)) := by
  have frf : FrF G G' := ⟨f.keep, f.rest, f.fz, fun a h => by simp at h, f.mm, f.dm⟩
  unfold gc
  split
  · exact ⟨G', rfl, rfl, fun _ h => h, frf, c, .inl rfl⟩
  · split
    · rename_i hu
      simp only [Bool.and_eq_true, List.all_eq_true] at hu
      obtain ⟨hu1, hu2⟩ := hu
      refine ⟨cutM G' n, rfl, rfl, fun a h => List.mem_of_mem_take h, ⟨⟨f.keep.im, f.keep.fz, fun i a e => ?_⟩, f.rest, f.fz, fun a h => by simp at h, fun a h => f.mm a (List.mem_of_mem_take h), f.dm⟩, ⟨?_, fun i x hx => ?_, ?_, c.2.2.2⟩, .inr ⟨rfl, hu1⟩⟩
      · show (G'.M.take n)[i]? = some a
        have := (List.getElem?_eq_some_iff.mp e).1
        rw [List.getElem?_take_of_lt (by omega)]
        exact f.keep.mm i a e
      · show (G'.M.take n).length = (S'.take n).length
        rw [List.length_take, List.length_take, c.1]
      · have hin := List.mem_of_getElem? hx
        have hi : i < n := by
          have := (List.getElem?_eq_some_iff.mp hx).1
          rw [List.length_take] at this
          omega
        rw [List.getElem?_take_of_lt hi] at hx
        obtain ⟨a, h1, h2, h3⟩ := c.2.1 i x hx
        exact ⟨a, by show (G'.M.take n)[i]? = some a; rw [List.getElem?_take_of_lt hi]; exact h1, h2.cut (hu2 x hin), h3⟩
      · exact c.2.2.1.sublist (List.take_sublist _ _)
    · exact ⟨G', rfl, rfl, fun _ h => h, frf, c, .inl rfl⟩
theorem toCell_under {d : D} {c : Cell} (h : toCell d = some c) (u : d.under n = true) : c.under n = true := by
  cases d <;> (simp only [toCell] at h; first | (cases h; done) | skip)
  · cases h; exact u
  · cases h; exact u
end
theorem ow_none (n : Nat) : Z.ow (List.replicate n none) = [] := by
  induction n with
  | zero => rfl
  | succ n ih => rw [List.replicate_succ]; exact ih
/-- the names at the entry -/
theorem st_start {W : Wo} {G : Gh} {N : List Str} {ds : List D} {vs : List V} {S : List Cell} (c : CsRep W G S) (r : Reps W G ds vs) (hl : ds.length ≤ N.length) :
    StRep W G ⟨ds.map .sh ++ List.replicate (N.length - ds.length) .no, S⟩ (L2.start N vs) (List.replicate N.length none) := by
  have hv := r.len
  refine ⟨?_, ?_, fun i x hx => ?_, c.1, c.2.1, ?_, c.2.2.2⟩
  · unfold L2.start; simp [hv]
  · simp; omega
  · have hx : (ds.map Slot.sh ++ List.replicate (N.length - ds.length) .no)[i]? = some x := hx
    by_cases hi : i < ds.length
    · rw [List.getElem?_append_left (by simpa using hi), List.getElem?_map, List.getElem?_eq_getElem hi] at hx
      cases hx
      obtain ⟨v, h1, h2⟩ := r.get (List.getElem?_eq_getElem hi)
      refine ⟨some v, none, ?_, ?_, rfl, v, rfl, h2⟩
      · unfold L2.start
        rw [List.getElem?_append_left (by simp; omega), List.getElem?_map, h1]; rfl
      · rw [List.getElem?_replicate, if_pos (by omega)]
    · have hlt : i < N.length := by
        have := (List.getElem?_eq_some_iff.mp hx).1
        simp at this; omega
      rw [List.getElem?_append_right (by simpa using hi), List.getElem?_replicate] at hx
      split at hx
      · cases hx
        refine ⟨none, none, ?_, ?_, rfl⟩
        · unfold L2.start
          rw [List.getElem?_append_right (by simp; omega), List.getElem?_replicate, if_pos (by simp; omega)]
        · rw [List.getElem?_replicate, if_pos hlt]
      · cases hx
  · show (Z.ow (List.replicate N.length none) ++ G.M).Nodup
    rw [ow_none]
    exact c.2.2.1
/-- what the text says, ahead of every run -/
structure Fac (W : Wo) (nm : Nm) (t : Tbl) (K : PySem.W.Frag) (mg : Str → Option Value) : Prop where
  eK : W.K = K
  flen : nm.fn.length = t.fns.length
  gls : ∀ n d, t.glob n = some d → ∃ (x : Str) (u : Value) (v : V), nm.gl[n]? = some x ∧ mg x = some u ∧ RelV v u ∧ ∀ G, Rep W G d v
  blt : ∀ x ∈ bltNames, mg (Str.ofString x) = none
  fa : ∀ (f : Nat) (a : Addr), W.fa f = some a → f < t.fns.length
  exc : ExF W nm t K mg
structure DefF (W : Wo) (nm : Nm) (t : Tbl) (K : PySem.W.Frag) (mg : Str → Option Value) (f : Nat) (fn : Fn) : Prop where
  ex : ∃ (x : Str) (a : Addr) (fd : FuncData) (N : List Str) (y qual : Str) (st : Stmt), nm.fn[f]? = some x ∧ W.fa f = some a ∧ mg x = some (.ref a) ∧ Fun K y qual st a fd ∧ Binds K fd (nm.pn.getD f []) [] ∧ (nm.pn.getD f []).length = fn.np ∧ N.length = fn.ns ∧
    FnScope N (nm.pn.getD f []) (defScope st) ∧ chkSs nm N (defScope st) (defBody st) fn.body = true
section
variable {P : Program} {w : World} {K : PySem.W.Frag} {mg : Str → Option Value} {base : Heap} {W : Wo} {nm : Nm} {t : Tbl}
theorem sp_len {f : Nat} {fn : Fn} {k : Nat} (hf : t.fns[f]? = some fn) {vs : List V} {H : Hp} {Q : VK} {E : XK} (h : spZ W (Phi t k f) vs H Q E) : vs.length = fn.np := by
  obtain ⟨G, ds, S, rfl, c, r, h⟩ := h
  cases k with
  | zero => exact h.elim
  | succ k =>
    simp only [Phi, hf] at h
    rw [r.len]
    by_cases hh : ds.length = fn.np ∧ fn.np ≤ fn.ns
    · exact hh.1
    · rw [if_neg hh] at h
      exact h.elim
theorem all_ok (F : Fac W nm t K mg) (D : ∀ f fn, t.fns[f]? = some fn → DefF W nm t K mg f fn) : ∀ (k f : Nat) (fn : Fn), t.fns[f]? = some fn →
    ∃ (x : Str) (a : Addr) (fd : FuncData), nm.fn[f]? = some x ∧ W.fa f = some a ∧ mg x = some (.ref a) ∧ PySem.W.keepIn K (.ref a) = true ∧ Binds K fd (nm.pn.getD f []) [] ∧ (nm.pn.getD f []).length = fn.np ∧
      FnOk P w K mg base (L2.CX P w) (2 * k) a fd (nm.pn.getD f []) (spZ W (Phi t k f)) ∧ ∃ oc od osl, K.lookup a = some ⟨oc, od, .func fd, osl⟩
  | 0, f, fn, hf => by
    obtain ⟨x, a, fd, N, y, qual, st, h1, h2, h3, h4, h5, h6, h7, h8, h9⟩ := (D f fn hf).ex
    obtain ⟨oc, od, kV, doc, pm, an, cdv, ct, osl, e1, lk, hcd⟩ := h4.ex
    refine ⟨x, a, fd, h1, h2, h3, h4.kp, h5, h6, ⟨fun vs H Q E h => by rw [h6]; exact sp_len hf h, fun A outer s H args us vs Q E _ _ _ _ h => ?_⟩, ?_⟩
    · obtain ⟨G, ds, S, rfl, c, r, h⟩ := h
      exact h.elim
    · exact ⟨oc, od, osl, lk⟩
  | k + 1, f, fn, hf => by
    have ih := all_ok F D k
    obtain ⟨x, a, fd, N, y, qual, st, h1, h2, h3, h4, h5, h6, h7, h8, h9⟩ := (D f fn hf).ex
    obtain ⟨oc0, od0, kV0, doc0, pm0, an0, cdv0, ct0, osl0, e0', lk0, hcd0⟩ := h4.ex
    refine ⟨x, a, fd, h1, h2, h3, h4.kp, h5, h6, ?_, oc0, od0, osl0, lk0⟩
    show FnOk P w K mg base (L2.CX P w) (2 * k + 1 + 1) a fd (nm.pn.getD f []) (spZ W (Phi t (k + 1) f))
    refine h4.okX h8 (fun vs H Q E h => by rw [h6]; exact sp_len hf h) fun cdv A outer s H vs Q E hr h => ?_
    have C : Cok W nm t k (fun cls d _ H => E cls d H) N (defScope st) (defScope st) (cxOf (L2.CX P w) P w K mg base N qual (defScope st) a cdv A outer s H E) :=
      { eK := F.eK, eN := rfl, nd := h8.nd, eS := rfl, calm := rfl, room := hr, tk := takes_of rfl rfl rfl rfl, flen := F.flen, fns := fun f fn hf => ⟨by obtain ⟨x, a, fd, z1, z2, z3, z4, z5, z6, z7, _⟩ := ih f fn hf; exact ⟨x, a, fd, _, z1, z2, z3, z4, z5, z6, z7⟩⟩, gls := F.gls, blt := F.blt, fa := F.fa, exc := F.exc
        wr := fun x h => by
          unfold locB at h
          split at h
          · rename_i hx; exact ⟨.inl hx, .inl rfl⟩
          · rename_i hx; exact ⟨.inr hx, .inl rfl⟩
          · cases h }
    have hS : Sok (cxOf (L2.CX P w) P w K mg base N qual (defScope st) a cdv A outer s H E) := ⟨passes_of rfl, rfl, rfl⟩
    refine ⟨tS W (fun cls d _ H => E cls d H) (execs (prog t k) fn.body), sndSs fn.body (defBody st) _ _ C hS h9, ?_⟩
    obtain ⟨G, ds, S, rfl, c, r, h⟩ := h
    simp only [Phi, hf] at h
    by_cases hh : ds.length = fn.np ∧ fn.np ≤ fn.ns
    · rw [if_pos hh] at h
      have sr0 := st_start (N := N) c r (by omega)
      have e0 : (⟨ds.map .sh ++ List.replicate (N.length - ds.length) .no, S⟩ : Sta) = ⟨ds.map .sh ++ List.replicate (fn.ns - fn.np) .no, S⟩ := by rw [h7, hh.1]
      rw [e0] at sr0
      refine ⟨G, _, _, rfl, sr0, ?_⟩
      have e1 : (⟨Phi t k, t.glob, t.init, t.meth, t.sub, t.flds⟩ : Prog) = prog t k := rfl
      rw [e1] at h
      have hn : G.M.length = S.length := c.1
      have frm0 : ∀ {G' : Gh} {o' : List Addr}, Frm G (Z.ow (List.replicate N.length none)) G' o' → Frm G [] G' o' := fun {G' o'} f => by
        rw [ow_none] at f; exact f
      cases e2 : execs (prog t k) fn.body ⟨ds.map .sh ++ List.replicate (fn.ns - fn.np) .no, S⟩ with
      | stuck => rw [e2] at h; exact h.elim
      | brk s1 => rw [e2] at h; exact h.elim
      | cnt s1 => rw [e2] at h; exact h.elim
      | next s1 =>
        rw [e2] at h
        intro σ' G' O' fr sr
        obtain ⟨G2, g1, g2, g3, g4, g5, g6⟩ := gc_ok sr.cs (frm0 fr) hn []
        have := h .non G2 g4 g5 (ro_val rep_non)
        rw [g1] at this
        exact this
      | ret o d s1 =>
        rw [e2] at h
        intro v σ' G' O' fr sr rr
        obtain ⟨G2, g1, g2, g3, g4, g5, g6⟩ := gc_ok sr.cs (frm0 fr) hn [d]
        have und : G2 = G' ∨ (G2 = cutM G' S.length ∧ d.under S.length = true) := by
          rcases g6 with g6 | ⟨g6, g7⟩
          · exact .inl g6
          · simp only [unders, Bool.and_true] at g7
            exact .inr ⟨g6, g7⟩
        have := h v G2 g4 g5 (by
          unfold RO
          unfold RetRep at rr
          split
          · rename_i ho
            have ho : o = true := ho
            rw [if_pos ho] at rr
            obtain ⟨c', a', z1, z2, z3, z4, z5, z6⟩ := rr
            refine ⟨c', a', z1, z2, ?_, by rw [g2]; exact z4, by simp, fun z => z5 (g3 _ z), ?_⟩
            · rcases und with e | ⟨e, u⟩
              · rw [e]; exact z3
              · rw [e]; exact z3.cut (toCell_under z1 u)
            · rcases z6 with z6 | z6
              · rw [ow_none] at z6; simp at z6
              · exact .inr z6
          · rename_i ho
            have ho : ¬ o = true := ho
            rw [if_neg ho] at rr
            rcases und with e | ⟨e, u⟩
            · rw [e]; exact rr
            · rw [e]; exact Rep.cut _ _ u rr)
        rw [g1] at this
        exact this
      | exn y s1 =>
        rw [e2] at h
        obtain ⟨cc, es⟩ := y
        intro σ' G' O' fr sr cls dx xr
        obtain ⟨G2, g1, g2, g3, g4, g5, g6⟩ := gc_ok sr.cs (frm0 fr) hn es
        have := h G2 cls dx g4 g5 (by
          obtain ⟨C', w1, w2, w3⟩ := xr
          refine ⟨C', w1, w2, ?_⟩
          rcases w3 with w3 | ⟨dd, fvs, w3, w4, w5, w6⟩
          · exact .inl w3
          · refine .inr ⟨dd, fvs, w3, w4, by rw [g1]; exact w5, ?_⟩
            rcases g6 with e | ⟨e, u⟩
            · rw [e]; exact w6
            · rw [e]; exact Reps.cutM _ _ u w6)
        rw [g1] at this
        exact this
    · rw [if_neg hh] at h
      exact h.elim
end
end Z

set_option Elab.async false
set_option linter.all false
set_option maxRecDepth 100000
set_option maxHeartbeats 4000000
set_option autoImplicit false
/-! ZLaw: the head and the end. -/
namespace Z
open PySem PySem.Spec PyProof.Rows L2
/-- what the head asks of the law's def -/
def spLaw (K : PySem.W.Frag) : Sp := fun vs H Q E => ∃ (a : Addr) (ns : List Int), vs = [.ref a] ∧ ns.length ≤ 63 ∧ Only H ∧ SqL K H a (ns.map V.int) ∧ ∀ H', Q (.bl true) H'
theorem law_sp {W : Wo} {K : PySem.W.Frag} {f : List D → List Cell → FRes} (hK : W.K = K) (hf : ∀ ns : List Int, ns.length ≤ 63 → ∃ S, f [.scr ns] [] = .ok false (.bl true) S) {vs : List V} {H : Hp} {Q : VK} {E : XK} (h : spLaw K vs H Q E) : spZ W f vs H Q E := by
  obtain ⟨a, ns, rfl, hl, ho, hs, q⟩ := h
  obtain ⟨S, e⟩ := hf ns hl
  refine ⟨⟨H, fun _ => False, []⟩, [.scr ns], [], rfl, ⟨rfl, fun n c hc => by simp at hc, by simp, fun a h => h.elim⟩, ?_, ?_⟩
  · simp only [Reps]
    refine ⟨.ref a, [], rfl, ?_, rfl⟩
    simp only [Rep]
    refine ⟨a, rfl, ?_⟩
    subst hK
    rcases hs with (hs | ⟨o, hs⟩) | hs
    · rcases ho a with z | ⟨o, xs, z⟩
      · rw [z] at hs; cases hs
      · rw [z] at hs; cases hs
    · exact .inl ⟨o, hs⟩
    · exact .inr hs
  · rw [e]
    intro v G' fr cs ro
    have ro : Rep W G' (.bl true) v := ro
    cases repw_bl ro.w
    exact q G'.H
section
variable {K : PySem.W.Frag} {h : Heap} {mg : Str → Option Value} {W : Wo} {nm : Nm} {t : Tbl}
/-- a def as the head finds it -/
theorem def_mk {f : Nat} {fn : Fn} {x qual : Str} {a : Addr} {st : Stmt} {ps N : List Str} {oc : Value} {od an : Option Addr} {osl : Array (Option Value)} {kV doc pm cdv ct : Value} (X : K.In h) (G : h.Ns mainGlobals mg)
    (e : PySem.W.nsIn K mainGlobals x = some (some (.ref a))) (l : K.lookup a = some ⟨oc, od, .func (PySem.W.fnOf x qual (defArgs st) (defBody st) (defScope st) .none kV doc pm an cdv ct), osl⟩) (c : PySem.W.codeIn K cdv qual = true) (k : PySem.W.keepIn K (.ref a) = true)
    (hn : nm.fn[f]? = some x) (ha : W.fa f = some a) (hb : ∀ (kV doc pm : Value) (an : Option Addr) (cdv ct : Value) (us : List Value), us.length = ps.length → bindArgs (PySem.W.fnOf x qual (defArgs st) (defBody st) (defScope st) .none kV doc pm an cdv ct) ⟨us, []⟩ = pure (ps.zip us))
    (hp : nm.pn.getD f [] = ps) (h1 : ps.length = fn.np) (h2 : N.length = fn.ns) (S : FnScope N ps (defScope st)) (hc : chkSs nm N (defScope st) (defBody st) fn.body = true) : DefF W nm t K mg f fn := by
  have F := fun_mk (st := st) l c k
  subst hp
  exact ⟨x, a, _, N, x, qual, st, hn, ha, PySem.W.mg_of X G e, F, F.binds hb, h1, h2, S, hc⟩
end
def scopeB (N P : List Str) (sc : Scope) : Bool := (match sc.kind with | .function => true | _ => false) && !sc.isCoroutine && !sc.isGenerator && decide N.Nodup && decide (N.take P.length = P) && (P.all fun x => locB sc x) && (sc.names.all fun y => match y.2 with | .free => false | _ => true)
theorem scope_of {N P : List Str} {sc : Scope} (h : scopeB N P sc = true) : FnScope N P sc := by
  unfold scopeB at h
  simp only [Bool.and_eq_true, decide_eq_true_eq, Bool.not_eq_true', List.all_eq_true] at h
  obtain ⟨⟨⟨⟨⟨⟨h1, h2⟩, h3⟩, h4⟩, h5⟩, h6⟩, h7⟩ := h
  refine ⟨?_, h2, h3, h4, h5, fun x hx => ?_, fun y hy e => ?_⟩
  · split at h1
    · assumption
    · cases h1
  · have := h6 x hx
    unfold locB at this
    split at this
    · rename_i z; exact .inl z
    · rename_i z; exact .inr z
    · cases this
  · have := h7 y hy
    rw [e] at this
    cases this
/-- the law's def, at the head -/
theorem law_end {P : Program} {w : World} {K : PySem.W.Frag} {mg : Str → Option Value} {base : Heap} {W : Wo} {nm : Nm} {t : Tbl} {k li : Nat} {fn : Fn} {fa : Addr} {fd : FuncData} {oc : Value} {od : Option Addr} {sl : Array (Option Value)}
    (B : ∃ (x : Str) (a : Addr) (fd : FuncData), nm.fn[li]? = some x ∧ W.fa li = some a ∧ mg x = some (.ref a) ∧ PySem.W.keepIn K (.ref a) = true ∧ Binds K fd (nm.pn.getD li []) [] ∧ (nm.pn.getD li []).length = fn.np ∧
      FnOk P w K mg base (L2.CX P w) (2 * k) a fd (nm.pn.getD li []) (spZ W (Phi t k li)) ∧ ∃ oc od osl, K.lookup a = some ⟨oc, od, .func fd, osl⟩)
    (l : K.lookup fa = some ⟨oc, od, .func fd, sl⟩) (ha : W.fa li = some fa) (hp : nm.pn.getD li [] = (["script"] : List Str)) (hK : W.K = K) (hf : ∀ ns : List Int, ns.length ≤ 63 → ∃ S, Phi t k li [.scr ns] [] = .ok false (.bl true) S) :
    FnOk P w K mg base (L2.CX P w) (2 * k) fa fd ["script"] (spLaw K) := by
  obtain ⟨x, a, fd', z1, z2, z3, z4, z5, z6, z7, oc', od', osl', z8⟩ := B
  rw [ha] at z2; cases z2
  rw [l] at z8; cases z8
  rw [hp] at z7
  exact z7.imp fun vs H Q E h => law_sp hK hf h
/-- the end of a proof -/
theorem walk {l : PySem.W.OpenLaw} {q : Program} {loose : List Str} {XP : (Str → Option Value) → Heap → Prop} {YP : World → Heap → Prop} {d : DefRec} {K : Params → PySem.W.Frag} {kk : Nat} (hn : l.most = some 63) (hdf : d.params.defaults = []) (hr : Room kk callerA)
    (hY : ∀ (w : World) (h : Heap), YP w h → (K w.params).In h)
    (F : ∀ (w : World) (mg : Str → Option Value) (fa : Addr) (h : Heap), (K w.params).In h → h.Ns mainGlobals mg → mg d.name = some (.ref fa) →
      ∃ fd : FuncData, (∀ (s : Shared) (u : Value), BindsTo s fd ⟨[u], []⟩ [("script", u)]) ∧ ∀ base : Heap, (K w.params).In base → base.Ns mainGlobals mg → FnOk l.prog w (K w.params) mg base (L2.CX l.prog w) kk fa fd ["script"] (spLaw (K w.params))) :
    PySem.W.WalkO q loose XP YP l.row.toRowW d [] (fun f vs => PySem.call f vs) :=
  L2.walk_of (n := 63) (k := kk) (x := "script") (CX := fun w => L2.CX l.prog w) (sp := fun w => spLaw (K w.params)) hn (by decide) hdf hr hY F (fun _ _ a ns hl ho hS => ⟨a, ns, rfl, hl, ho, hS, fun _ => rfl⟩) fun _ _ _ _ _ ⟨_, _, _, _, _, _, _, _, _, _, _, _, z⟩ => z
end Z

set_option Elab.async false
set_option linter.all false
set_option maxRecDepth 100000
set_option maxHeartbeats 1000000
set_option autoImplicit false
/-! ZEval: running the interpreter by hand. -/
namespace Z
theorem phi_succ {t : Tbl} {k f : Nat} {fn : Fn} {ds : List D} {S : List Cell} (h : t.fns[f]? = some fn) (h1 : ds.length = fn.np) (h2 : fn.np ≤ fn.ns) :
    Phi t (k + 1) f ds S = fin S.length (execs (prog t k) fn.body ⟨ds.map .sh ++ List.replicate (fn.ns - fn.np) .no, S⟩) := by
  simp only [Phi, h]
  rw [if_pos ⟨h1, h2⟩]
  rfl
section
variable {c : Sta → Res Bool} {b : Sta → RS}
theorem whileN_mono : ∀ {n m : Nat} {s : Sta}, n ≤ m → whileN c b n s ≠ .stuck → whileN c b m s = whileN c b n s
  | 0, _, s, _, h => absurd rfl h
  | n + 1, 0, s, h, _ => by omega
  | n + 1, m + 1, s, hm, h => by
    simp only [whileN] at h ⊢
    cases e : c s with
    | stuck => rfl
    | exn x s1 => rfl
    | ok a s1 =>
      rw [e] at h
      simp only [Res.then] at h ⊢
      cases a with
      | false => rfl
      | true =>
        simp only [if_true] at h ⊢
        cases e2 : b s1 with
        | next s2 => rw [e2] at h; exact whileN_mono (Nat.le_of_succ_le_succ hm) h
        | cnt s2 => rw [e2] at h; exact whileN_mono (Nat.le_of_succ_le_succ hm) h
        | _ => rfl
theorem whileL_of {n : Nat} {s : Sta} (h : whileN c b n s ≠ .stuck) : whileL c b s = whileN c b n s := by
  have ex : ∃ n, whileN c b n s ≠ .stuck := ⟨n, h⟩
  unfold whileL
  rw [dif_pos ex]
  have hc := Classical.choose_spec ex
  rcases Nat.le_total (Classical.choose ex) n with q | q
  · exact (whileN_mono q hc).symm
  · exact whileN_mono q h
theorem whileL_exn {n : Nat} {s : Sta} (h : whileL c b s ≠ .stuck) : ∃ n, whileN c b n s = whileL c b s ∧ whileN c b n s ≠ .stuck := by
  unfold whileL at h
  split at h
  · rename_i ex
    refine ⟨Classical.choose ex, ?_, Classical.choose_spec ex⟩
    unfold whileL
    rw [dif_pos ex]
  · exact absurd rfl h
theorem while_end {s s1 : Sta} (h : c s = .ok false s1) : whileL c b s = .next s1 := by
  have e : whileN c b 1 s = .next s1 := by simp [whileN, h, Res.then]
  rw [whileL_of (n := 1) (by rw [e]; simp), e]
theorem while_next {s s1 s2 : Sta} (h : c s = .ok true s1) (h2 : b s1 = .next s2 ∨ b s1 = .cnt s2) (h3 : whileL c b s2 ≠ .stuck) : whileL c b s = whileL c b s2 := by
  obtain ⟨n, e, hn⟩ := whileL_exn (n := 0) h3
  have e1 : whileN c b (n + 1) s = whileN c b n s2 := by
    rcases h2 with h2 | h2 <;> simp [whileN, h, h2, Res.then]
  rw [whileL_of (n := n + 1) (by rw [e1]; exact hn), e1, e]
theorem while_brk {s s1 s2 : Sta} (h : c s = .ok true s1) (h2 : b s1 = .brk s2) : whileL c b s = .next s2 := by
  have e : whileN c b 1 s = .next s2 := by simp [whileN, h, h2, Res.then]
  rw [whileL_of (n := 1) (by rw [e]; simp), e]
theorem while_exn {s s1 s2 : Sta} {x : Exn} (h : c s = .ok true s1) (h2 : b s1 = .exn x s2) : whileL c b s = .exn x s2 := by
  have e : whileN c b 1 s = .exn x s2 := by simp [whileN, h, h2, Res.then]
  rw [whileL_of (n := 1) (by rw [e]; simp), e]
theorem while_ret {s s1 s2 : Sta} {o : Bool} {d : D} (h : c s = .ok true s1) (h2 : b s1 = .ret o d s2) : whileL c b s = .ret o d s2 := by
  have e : whileN c b 1 s = .ret o d s2 := by simp [whileN, h, h2, Res.then]
  rw [whileL_of (n := 1) (by rw [e]; simp), e]
end
section
variable {P : Prog} {x : S} {xs : List S} {s s1 : Sta}
theorem seq_next (h : exec P x s = .next s1) : execs P (x :: xs) s = execs P xs s1 := by simp [execs, h, RS.seq]
theorem seq_ret {o : Bool} {d : D} (h : exec P x s = .ret o d s1) : execs P (x :: xs) s = .ret o d s1 := by simp [execs, h, RS.seq]
theorem seq_exn {e : Exn} (h : exec P x s = .exn e s1) : execs P (x :: xs) s = .exn e s1 := by simp [execs, h, RS.seq]
theorem execs_nil : execs P [] s = .next s := by simp [execs]
end
theorem gc_id {n : Nat} {ds : List D} {S : List Cell} (h : S.length = n) : gc n ds S = S := by simp [gc, h]

/-! ### numbers as texts -/
theorem dchar (d : Nat) (h : d < 10) : (Nat.digitChar d).toNat = 48 + d := by
  match d, h with
  | 0, _ => rfl
  | 1, _ => rfl
  | 2, _ => rfl
  | 3, _ => rfl
  | 4, _ => rfl
  | 5, _ => rfl
  | 6, _ => rfl
  | 7, _ => rfl
  | 8, _ => rfl
  | 9, _ => rfl
  | n + 10, h => omega
theorem digits_rec (n : Nat) : digits n = if n < 10 then [48 + n] else digits (n / 10) ++ [48 + n % 10] := by
  unfold digits
  rw [Nat.toDigits_eq_if (by decide)]
  split
  · rename_i h; simp [dchar n h]
  · simp [dchar (n % 10) (Nat.mod_lt _ (by decide))]
theorem digits_lt10 {n : Nat} (h : n < 10) : digits n = [48 + n] := by rw [digits_rec, if_pos h]
theorem digits_snoc {n d : Nat} (hn : 0 < n) (hd : d < 10) : digits (10 * n + d) = digits n ++ [48 + d] := by
  rw [digits_rec, if_neg (by omega)]
  have e1 : (10 * n + d) / 10 = n := by omega
  have e2 : (10 * n + d) % 10 = d := by omega
  rw [e1, e2]
theorem digits_ne (n : Nat) : digits n ≠ [] := by
  rw [digits_rec]
  split <;> simp
theorem allDig_digits (n : Nat) : allDig (digits n) = true := by
  induction n using Nat.strongRecOn with
  | ind n ih =>
    rw [digits_rec]
    split
    · rename_i h; simp [allDig]; omega
    · have := ih (n / 10) (by omega)
      unfold allDig at this ⊢
      rw [List.all_append, this]
      simp
      omega
theorem digVal_acc (x : List Nat) : ∀ a, x.foldl (fun a c => a * 10 + (c - 48)) a = a * 10 ^ x.length + digVal x := by
  induction x with
  | nil => intro a; simp [digVal]
  | cons c x ih =>
    intro a
    unfold digVal
    simp only [List.foldl_cons, List.length_cons]
    rw [ih, ih (0 * 10 + (c - 48))]
    rw [Nat.pow_succ, Nat.add_mul, Nat.zero_mul, Nat.zero_add, Nat.mul_assoc, Nat.mul_comm 10 (10 ^ x.length), Nat.add_assoc]
theorem digVal_app (x y : List Nat) : digVal (x ++ y) = digVal x * 10 ^ y.length + digVal y := by
  have := digVal_acc y (digVal x)
  unfold digVal at this ⊢
  rw [List.foldl_append]
  exact this
theorem digVal_digits (n : Nat) : digVal (digits n) = n := by
  induction n using Nat.strongRecOn with
  | ind n ih =>
    rw [digits_rec]
    split
    · simp [digVal]
    · rw [digVal_app, ih (n / 10) (by omega)]
      simp [digVal]
      omega
theorem digits_head {n : Nat} (h : 0 < n) : ∃ c r, digits n = c :: r ∧ 48 < c := by
  induction n using Nat.strongRecOn with
  | ind n ih =>
    rw [digits_rec]
    split
    · exact ⟨_, _, rfl, by omega⟩
    · obtain ⟨c, r, e, hc⟩ := ih (n / 10) (by omega) (by omega)
      rw [e]
      exact ⟨c, r ++ _, rfl, hc⟩
theorem digits_len {n k : Nat} (hk : 0 < k) (h : n < 10 ^ k) : (digits n).length ≤ k := by
  induction n using Nat.strongRecOn generalizing k with
  | ind n ih =>
    rw [digits_rec]
    split
    · simp; omega
    · rename_i h10
      match k, hk with
      | 1, _ => simp at h; omega
      | k + 2, _ =>
        have : n / 10 < 10 ^ (k + 1) := by
          rw [Nat.pow_succ] at h
          omega
        have := ih (n / 10) (by omega) (by omega) this
        simp
        omega
theorem digVal_lt {x : List Nat} (h : allDig x = true) : digVal x < 10 ^ x.length := by
  induction x with
  | nil => simp [digVal]
  | cons c x ih =>
    unfold allDig at h
    simp only [List.all_cons, Bool.and_eq_true, decide_eq_true_eq] at h
    have := ih h.2
    have e := digVal_app [c] x
    simp only [List.singleton_append] at e
    rw [e, List.length_cons, Nat.pow_succ]
    have e2 : digVal [c] = c - 48 := by simp [digVal]
    rw [e2]
    have : (c - 48) * 10 ^ x.length ≤ 9 * 10 ^ x.length := Nat.mul_le_mul_right _ (by omega)
    omega
/-- of fixed width -/
def fw : Nat → Nat → List Nat
  | 0, _ => []
  | m + 1, b => fw m (b / 10) ++ [48 + b % 10]
theorem fw_len : ∀ m b, (fw m b).length = m
  | 0, _ => rfl
  | m + 1, b => by simp [fw, fw_len m]
theorem digits_fw {a : Nat} (ha : 0 < a) : ∀ (m b : Nat), b < 10 ^ m → digits (a * 10 ^ m + b) = digits a ++ fw m b
  | 0, b, h => by
    have : b = 0 := by simp at h; exact h
    subst this
    simp [fw]
  | m + 1, b, h => by
    rw [Nat.pow_succ] at h
    have h1 : b / 10 < 10 ^ m := by omega
    have e : a * 10 ^ (m + 1) + b = 10 * (a * 10 ^ m + b / 10) + b % 10 := by
      rw [Nat.pow_succ, ← Nat.mul_assoc]
      omega
    have pos : 0 < a * 10 ^ m + b / 10 := by
      have : 0 < a * 10 ^ m := Nat.mul_pos ha (Nat.pow_pos (by decide))
      omega
    rw [e, digits_snoc pos (Nat.mod_lt _ (by decide)), digits_fw ha m (b / 10) h1]
    simp [fw]
theorem fw_zero : ∀ m, fw m 0 = List.replicate m 48
  | 0 => rfl
  | m + 1 => by
    simp only [fw, Nat.zero_div, Nat.zero_mod]
    rw [fw_zero m]
    exact (List.replicate_succ' ..).symm
theorem pad_fw : ∀ (m b : Nat), 0 < m → b < 10 ^ m → List.replicate (m - (digits b).length) 48 ++ digits b = fw m b
  | m + 1, b, _, h => by
    by_cases h10 : b < 10
    · rw [digits_lt10 h10]
      simp only [fw]
      have e1 : b / 10 = 0 := by omega
      have e2 : b % 10 = b := by omega
      rw [e1, e2, fw_zero]
      simp
    · have hm : 0 < m := by
        cases m with
        | zero => simp at h; omega
        | succ m => omega
      rw [Nat.pow_succ] at h
      have ih := pad_fw m (b / 10) hm (by omega)
      have e : digits b = digits (b / 10) ++ [48 + b % 10] := by rw [digits_rec, if_neg h10]
      rw [e]
      simp only [fw]
      rw [← ih]
      simp [Nat.add_sub_add_right]
end Z
namespace Z
theorem sIx_nn {n d : Nat} (v : Nat) : sIx n d (some (v : Int)) = min v n := by
  simp only [sIx]
  rw [if_neg (by omega)]
  omega
theorem cut_to {α : Type} (x : List α) (k : Nat) : cut x none (some (k : Int)) = x.take k := by
  unfold cut
  rw [sIx_nn]
  simp only [sIx, List.drop_zero, Nat.sub_zero]
  rcases Nat.le_total k x.length with h | h
  · rw [Nat.min_eq_left h]
  · rw [Nat.min_eq_right h, List.take_of_length_le (Nat.le_refl _), List.take_of_length_le h]
theorem cut_from {α : Type} (x : List α) (k : Nat) : cut x (some (k : Int)) none = x.drop k := by
  unfold cut
  rw [sIx_nn]
  simp only [sIx]
  rcases Nat.le_total k x.length with h | h
  · rw [Nat.min_eq_left h, List.take_of_length_le (by simp)]
  · rw [Nat.min_eq_right h]
    simp [List.drop_of_length_le h]
theorem cut_mid {α : Type} (x : List α) (a b : Nat) : cut x (some (a : Int)) (some (b : Int)) = (x.drop a).take (b - a) := by
  unfold cut
  rw [sIx_nn, sIx_nn]
  rcases Nat.le_total a x.length with h | h
  · rw [Nat.min_eq_left h]
    rcases Nat.le_total b x.length with h2 | h2
    · rw [Nat.min_eq_left h2]
    · rw [Nat.min_eq_right h2, List.take_of_length_le (by simp), List.take_of_length_le (by simp; omega)]
  · rw [Nat.min_eq_right h, List.drop_of_length_le h]
    simp [List.drop_of_length_le (Nat.le_refl x.length)]
theorem fit_str (x : List Nat) : (D.str x).fit = true := by simp [D.fit, D.plain, D.deep]
theorem fit_int (x : Int) : (D.int x).fit = true := by simp [D.fit, D.plain, D.deep]
theorem atI_nat {α : Type} (x : List α) (i : Nat) : atI x (i : Int) = x[i]? := by
  unfold atI ixN
  rw [if_pos (by omega)]
  by_cases h : i < x.length
  · rw [if_pos (by omega)]; simp
  · rw [if_neg (by omega), List.getElem?_eq_none (by omega)]; rfl
theorem atI_zero {α : Type} (c : α) (r : List α) : atI (c :: r) 0 = some c := by
  have := atI_nat (c :: r) 0
  simpa using this
/-- the body of a for -/
noncomputable abbrev fbody (P : Prog) (tg : Tg) (b : List S) : D → Sta → RS := fun d s2 => match assign tg d s2.σ with
      | some σ' => execs P b { s2 with σ := σ' }
      | none => .stuck
theorem exec_fr {P : Prog} {tg : Tg} {it : It} {b : List S} {s s1 : Sta} {ds : List D} (h : evit P it s = .ok ds s1) : exec P (.fr tg it b) s = forL (fbody P tg b) ds s1 := by
  simp only [exec]
  rw [h]
  rfl
theorem exec_whl {P : Prog} {t : T} {b : List S} {s : Sta} : exec P (.whl t b) s = whileL (evt P t) (execs P b) s := by
  simp only [exec]
theorem evit_rng {P : Prog} {es : List E} {s s1 : Sta} {ds r : List D} (h : evs P es s = .ok ds s1) (h2 : rangeD ds = some r) : evit P (.rng es) s = .ok r s1 := by
  simp only [evit, h, Res.bind, lift, h2]
/-- a turn of a comprehension -/
noncomputable abbrev cturn (P : Prog) (tg : Tg) (vs : List Nat) (ifs : List T) (e : E) : D → Sta → Res (Option D) := fun d s2 => noX (match assign tg d s2.σ with
            | some σ' => (evts P ifs { s2 with σ := σ' }).bind fun b s3 => if b then (ev P e s3).bind fun x s4 => .ok (some x.2) { s4 with σ := wipeZ s4.σ vs } else .ok none { s3 with σ := wipeZ s3.σ vs }
            | none => .stuck)
theorem ev_comp {P : Prog} {tg : Tg} {vs : List Nat} {it : It} {ifs : List T} {e : E} {s s1 s5 : Sta} {ds r : List D} (h : evit P it s = .ok ds s1) (hs : (vs.all fun v => isSh (s1.σ.getD v .no)) = true) (h2 : compL (cturn P tg vs ifs e) ds [] { s1 with σ := wipeZ s1.σ vs } = .ok r s5) :
    ev P (.comp tg vs it ifs e) s = .ok (true, .lst r) { s5 with σ := backZ s1.σ s5.σ vs } := by
  have e0 : ev P (.comp tg vs it ifs e) s = (evit P it s).bind fun ds s1 => if (vs.all fun v => isSh (s1.σ.getD v .no)) = true then (compL (cturn P tg vs ifs e) ds [] { s1 with σ := wipeZ s1.σ vs }).bind fun r s5 => .ok (true, .lst r) { s5 with σ := backZ s1.σ s5.σ vs } else .stuck := by
    first | (simp only [ev]; done) | (simp only [ev]; rfl)
  rw [e0, h]
  show (if (vs.all fun v => isSh (s1.σ.getD v .no)) = true then (compL (cturn P tg vs ifs e) ds [] { s1 with σ := wipeZ s1.σ vs }).bind fun r s5 => Res.ok (true, D.lst r) { s5 with σ := backZ s1.σ s5.σ vs } else .stuck) = _
  rw [if_pos hs, h2]
  rfl
section
variable {P : Prog} {s s1 s2 s3 : Sta}
def notV : E → Bool
  | .v _ => false
  | _ => true
theorem rd_of {e : E} {x : Bool × D} (h : ev P e s = .ok x s1) (hv : notV e = true := by rfl) : rdArg e (ev P e) s = .ok (.val x.2) s1 := by
  cases e <;> first | (cases hv; done) | (simp only [rdArg, h, Res.bind])
theorem ev_pr1 {p : Prim} {a : E} {x : Arg} {d : D} {r : Bool × D} (h : rdArg a (ev P a) s = .ok x s1) (hg : x.get s1 = some d) (hp : prim1 p d = some r) : ev P (.pr p [a]) s = .ok r s1 := by
  simp [ev, evrs, h, Res.bind, getAll, hg, lift, prim, hp]
theorem ev_pr2 {p : Prim} {a b : E} {x y : Arg} {d e : D} {r : Bool × D} (h : rdArg a (ev P a) s = .ok x s1) (h2 : rdArg b (ev P b) s1 = .ok y s2) (hg : x.get s2 = some d) (hg2 : y.get s2 = some e) (hp : prim2 p d e = some r) : ev P (.pr p [a, b]) s = .ok r s2 := by
  simp [ev, evrs, h, h2, Res.bind, getAll, hg, hg2, lift, prim, hp]
theorem ev_mp1 {m : MPrim} {o a : E} {x y : Arg} {d d' e : D} {r : Bool × D} (h : rdArg o (ev P o) s = .ok x s1) (hg : x.get s1 = some d) (hr : mrecv m d = true) (h2 : rdArg a (ev P a) s1 = .ok y s2) (hg1 : x.get s2 = some d') (hg2 : y.get s2 = some e) (hp : mprim2 m d' e = some r) : ev P (.mp m o [a]) s = .ok r s2 := by
  simp [ev, evrs, h, h2, hr, Res.bind, getAll, hg, hg1, hg2, lift, mprim, hp]
theorem get_val {d : D} (h : (match d with | .ref _ => false | _ => true) = true) : (Arg.val d).get s = some d := by
  cases d <;> first | rfl | cases h
end
theorem compL_map {turn : D → Sta → Res (Option D)} {f : D → D} {s : Sta} : ∀ (ds acc : List D), (∀ d ∈ ds, turn d s = .ok (some (f d)) s) → acc.length + ds.length ≤ LIM → compL turn ds acc s = .ok (acc ++ ds.map f) s
  | [], acc, _, _ => by simp [compL]
  | d :: ds, acc, h, hl => by
    simp only [List.length_cons] at hl
    simp only [compL, h d List.mem_cons_self, Res.bind]
    rw [if_pos (by omega), compL_map ds (acc ++ [f d]) (fun x hx => h x (List.mem_cons_of_mem _ hx)) (by simp; omega)]
    simp
section
variable {P : Prog} {s s1 s2 : Sta}
theorem exec_ret {e : E} {x : Bool × D} (h : ev P e s = .ok x s1) (hv : notV e = true := by rfl) : exec P (.ret e) s = .ret x.1 x.2 s1 := by
  cases e <;> first | (cases hv; done) | (simp only [exec, h, Res.then])
theorem exec_if_true {t : T} {a b : List S} {r : RS} (h : evt P t s = .ok true s1) (h2 : execs P a s1 = r) : exec P (.ife t a b) s = r := by
  simp only [exec, h, Res.then, if_true, h2]
theorem exec_if_false {t : T} {a b : List S} {r : RS} (h : evt P t s = .ok false s1) (h2 : execs P b s1 = r) : exec P (.ife t a b) s = r := by
  simp [exec, h, Res.then, h2]
theorem exec_set {i : Nat} {e : E} {x : Bool × D} (h : ev P e s = .ok x s1) : exec P (.set i e) s = bindTo i x.1 x.2 s1 := by
  simp only [exec, h, Res.then]
theorem exec_exp {e : E} {x : Bool × D} (h : ev P e s = .ok x s1) : exec P (.exp e) s = .next s1 := by
  simp only [exec, h, Res.then]
end
theorem execs_app {P : Prog} : ∀ (xs ys : List S) (s s1 : Sta), execs P xs s = .next s1 → execs P (xs ++ ys) s = execs P ys s1
  | [], ys, s, s1, h => by rw [execs_nil] at h; cases h; rfl
  | x :: xs, ys, s, s1, h => by
    rw [List.cons_append]
    cases e : exec P x s with
    | next s2 =>
      rw [seq_next e] at h ⊢
      exact execs_app xs ys s2 s1 h
    | _ => simp [execs, e, RS.seq] at h
theorem ev_tup2 {P : Prog} {a b : E} {x y : Bool × D} {s s1 s2 : Sta} (h : ev P a s = .ok x s1) (h2 : ev P b s1 = .ok y s2) : ev P (.tup [a, b]) s = .ok (false, .tup [x.2, y.2]) s2 := by
  have h3 : 2 ≤ LIM := by decide
  simp [ev, evs, h, h2, Res.bind, h3]
end Z

set_option Elab.async false
set_option linter.all false
set_option maxRecDepth 100000
set_option maxHeartbeats 4000000
set_option autoImplicit false
/-! the Z-form of the program and the law (printed by gen.py) -/
namespace K57
open PySem PySem.Spec PyProof.Rows L2
def top (i : Nat) : Stmt := PySem.Challenge.pw_onlywhatmatters_k57_integers_and_data.main.body.getD i (.Pass ⟨0, 0, 0, 0⟩)
def nm : Z.Nm := { fn := ["write_integer", "read_integer", "write_data", "plain_text", "read_plain", "read_data", "_law_start", "_law_draw", "_law_one_of", "_law_is_int", "_law_same", "_law_integer_drawn", "_law_text_drawn", "_law_datum_drawn", "_law_is_refused", "_law_bad_integers", "_law_bad_data", "law"], gl := ["BASE", "DIGITS", "DEPTH", "SIGNS"], cl := [], fl := [], mt := [], ex := ["OnlywhatmattersError", "BadText"], own := [0, 1], pn := [["n"], ["text"], ["datum"], ["text"], ["text", "start"], ["text"], ["script"], ["state", "most"], ["state", "items"], ["x"], ["x", "y"], ["state"], ["state"], ["state", "depth"], ["read", "text"], ["text"], ["state", "text"], ["script"]] }
/-- write_integer -/
def f0 : Z.Fn := ⟨1, 3,
   [(.ife (.cmp .Lt (.v 0) (.lit (.int 0))) [(.ret (.pr (.bin .Add) [(.lit (.str [45])), (.call 0 [(.pr .neg [(.v 0)])])]))] []),
    (.set 1 (.lst [])),
    (.whl (.cmp .GtE (.v 0) (.g 0)) [(.setT (.tup [(.v 0), (.v 2)]) (.pr .divmodOf [(.v 0), (.g 0)])),
    (.exp (.mu .append (.v 1) [(.mp .zfill (.pr .strOf [(.v 2)]) [(.lit (.int 64))])]))]),
    (.exp (.mu .append (.v 1) [(.pr .strOf [(.v 0)])])),
    (.ret (.mp .join (.lit (.str [])) [(.pr .rev [(.v 1)])]))]⟩
abbrev N0 : List Str := ["n", "chunks", "low"]
abbrev P0 : List Str := ["n"]
abbrev s0 : Stmt := top 6
/-- read_integer -/
def f1 : Z.Fn := ⟨1, 6,
   [(.set 1 (.v 0)),
    (.ife (.cmp .Eq (.sl (.v 0) none (some (.lit (.int 1)))) (.lit (.str [45]))) [(.set 1 (.sl (.v 0) (some (.lit (.int 1))) none))] []),
    (.ife (.bop false [(.cmp .Eq (.v 1) (.lit (.str []))), (.bop true [(.cmp .Eq (.pr .ix [(.v 1), (.lit (.int 0))]) (.lit (.str [48]))), (.cmp .NotEq (.v 0) (.lit (.str [48])))])]) [(.rais 1 [])] []),
    (.fr (.v 2) (.seq (.v 1)) [(.ife (.cmp .NotIn (.v 2) (.g 1)) [(.rais 1 [])] [])]),
    (.set 3 (.pr (.bin .Mod) [(.pr .len [(.v 1)]), (.lit (.int 64))])),
    (.set 4 (.lit (.int 0))),
    (.ife (.cmp .Gt (.v 3) (.lit (.int 0))) [(.set 4 (.pr .intOf [(.sl (.v 1) none (some (.v 3)))]))] []),
    (.fr (.v 5) (.rng [(.v 3), (.pr .len [(.v 1)]), (.lit (.int 64))]) [(.set 4 (.pr (.bin .Add) [(.pr (.bin .Mult) [(.v 4), (.g 0)]), (.pr .intOf [(.sl (.v 1) (some (.v 5)) (some (.pr (.bin .Add) [(.v 5), (.lit (.int 64))])))])]))]),
    (.ife (.cmp .Eq (.pr .ix [(.v 0), (.lit (.int 0))]) (.lit (.str [45]))) [(.ret (.pr .neg [(.v 4)]))] []),
    (.ret (.v 4))]⟩
abbrev N1 : List Str := ["text", "digits", "char", "head", "n", "start"]
abbrev P1 : List Str := ["text"]
abbrev s1 : Stmt := top 7
/-- write_data -/
def f2 : Z.Fn := ⟨1, 2,
   [(.ife (.e (.pr (.isi .tuple) [(.v 0)])) [(.ret (.pr (.bin .Add) [(.pr (.bin .Add) [(.lit (.str [40])), (.mp .join (.lit (.str [44, 32])) [(.comp (.v 1) [1] (.seq (.v 0)) [] (.call 2 [(.v 1)]))])]), (.lit (.str [41]))]))] []),
    (.ife (.e (.pr (.isi .str) [(.v 0)])) [(.ret (.pr (.bin .Add) [(.pr (.bin .Add) [(.lit (.str [39])), (.v 0)]), (.lit (.str [39]))]))] []),
    (.ret (.call 0 [(.v 0)]))]⟩
abbrev N2 : List Str := ["datum", "item"]
abbrev P2 : List Str := ["datum"]
abbrev s2 : Stmt := top 11
/-- plain_text -/
def f3 : Z.Fn := ⟨1, 2,
   [(.fr (.v 1) (.seq (.v 0)) [(.ife (.bop false [(.cmp .Lt (.v 1) (.lit (.str [32]))), (.cmp .Gt (.v 1) (.lit (.str [126]))), (.cmp .Eq (.v 1) (.lit (.str [39]))), (.cmp .Eq (.pr .ordOf [(.v 1)]) (.lit (.int 37)))]) [(.ret (.lit (.bl false)))] [])]),
    (.ret (.lit (.bl true)))]⟩
abbrev N3 : List Str := ["text", "char"]
abbrev P3 : List Str := ["text"]
abbrev s3 : Stmt := top 12
/-- read_plain -/
def f4 : Z.Fn := ⟨2, 3,
   [(.ife (.cmp .Eq (.pr .ix [(.v 0), (.v 1)]) (.lit (.str [39]))) [(.set 2 (.mp .find3 (.v 0) [(.lit (.str [39])), (.pr (.bin .Add) [(.v 1), (.lit (.int 1))])])),
    (.ife (.bop false [(.cmp .Lt (.v 2) (.lit (.int 0))), (.not (.e (.call 3 [(.sl (.v 0) (some (.pr (.bin .Add) [(.v 1), (.lit (.int 1))])) (some (.v 2)))])))]) [(.rais 1 [])] []),
    (.ret (.tup [(.sl (.v 0) (some (.pr (.bin .Add) [(.v 1), (.lit (.int 1))])) (some (.v 2))), (.pr (.bin .Add) [(.v 2), (.lit (.int 1))])]))] []),
    (.set 2 (.v 1)),
    (.whl (.bop true [(.cmp .Lt (.v 2) (.pr .len [(.v 0)])), (.cmp .In (.pr .ix [(.v 0), (.v 2)]) (.g 3))]) [(.aug 2 .Add (.lit (.int 1)))]),
    (.ret (.tup [(.call 1 [(.sl (.v 0) (some (.v 1)) (some (.v 2)))]), (.v 2)]))]⟩
abbrev N4 : List Str := ["text", "start", "end"]
abbrev P4 : List Str := ["text", "start"]
abbrev s4 : Stmt := top 13
/-- read_data -/
def f5 : Z.Fn := ⟨1, 6,
   [(.set 1 (.lst [(.cell (.lst []))])),
    (.set 2 (.lit (.int 0))),
    (.set 3 (.lit (.bl true))),
    (.whl (.cmp .Lt (.v 2) (.pr .len [(.v 0)])) [(.ife (.bop true [(.e (.v 3)), (.cmp .Eq (.pr .ix [(.v 0), (.v 2)]) (.lit (.str [40]))), (.cmp .LtE (.pr .len [(.v 1)]) (.g 2))]) [(.exp (.mu .append (.v 1) [(.cell (.lst []))])),
    (.aug 2 .Add (.lit (.int 1)))] [(.ife (.bop true [(.cmp .Eq (.pr .ix [(.v 0), (.v 2)]) (.lit (.str [41]))), (.cmp .Gt (.pr .len [(.v 1)]) (.lit (.int 1))), (.bop false [(.not (.e (.v 3))), (.cmp .Eq (.pr .ix [(.v 0), (.pr (.bin .Sub) [(.v 2), (.lit (.int 1))])]) (.lit (.str [40])))])]) [(.set 4 (.pr .tupleOf [(.mu .pop (.v 1) [])])),
    (.exp (.mu .append (.pr .ix [(.v 1), (.pr .neg [(.lit (.int 1))])]) [(.v 4)])),
    (.aug 2 .Add (.lit (.int 1))),
    (.set 3 (.lit (.bl false)))] [(.ife (.bop true [(.not (.e (.v 3))), (.cmp .Gt (.pr .len [(.v 1)]) (.lit (.int 1))), (.cmp .Eq (.sl (.v 0) (some (.v 2)) (some (.pr (.bin .Add) [(.v 2), (.lit (.int 2))]))) (.lit (.str [44, 32])))]) [(.aug 2 .Add (.lit (.int 2))),
    (.set 3 (.lit (.bl true)))] [(.ife (.bop true [(.e (.v 3)), (.cmp .NotEq (.pr .ix [(.v 0), (.v 2)]) (.lit (.str [40])))]) [(.setT (.tup [(.v 5), (.v 2)]) (.call 4 [(.v 0), (.v 2)])),
    (.exp (.mu .append (.pr .ix [(.v 1), (.pr .neg [(.lit (.int 1))])]) [(.v 5)])),
    (.set 3 (.lit (.bl false)))] [(.rais 1 [])])])])])]),
    (.ife (.bop false [(.cmp .NotEq (.pr .len [(.v 1)]) (.lit (.int 1))), (.cmp .NotEq (.pr .len [(.pr .ix [(.v 1), (.lit (.int 0))])]) (.lit (.int 1)))]) [(.rais 1 [])] []),
    (.ret (.pr .ix [(.pr .ix [(.v 1), (.lit (.int 0))]), (.lit (.int 0))]))]⟩
abbrev N5 : List Str := ["text", "stack", "index", "fresh", "done", "item"]
abbrev P5 : List Str := ["text"]
abbrev s5 : Stmt := top 14
/-- _law_start -/
def f6 : Z.Fn := ⟨1, 1,
   [(.ret (.cell (.lst [(.pr .listOf [(.v 0)]), (.lit (.int 0)), (.lit (.int 0)), (.lit (.int 0))])))]⟩
abbrev N6 : List Str := ["script"]
abbrev P6 : List Str := ["script"]
abbrev s6 : Stmt := top 16
/-- _law_draw -/
def f7 : Z.Fn := ⟨2, 5,
   [(.put (.v 0) (.lit (.int 3)) (.pr (.bin .Add) [(.pr .ix [(.v 0), (.lit (.int 3))]), (.lit (.int 1))])),
    (.ife (.cmp .Gt (.pr .ix [(.v 0), (.lit (.int 2))]) (.lit (.int 0))) [(.set 2 (.pr (.bin .Mod) [(.pr .intOf [(.pr .ix [(.v 0), (.lit (.int 2))])]), (.v 1)])),
    (.put (.v 0) (.lit (.int 2)) (.pr (.bin .FloorDiv) [(.pr .ix [(.v 0), (.lit (.int 2))]), (.v 1)])),
    (.ret (.v 2))] []),
    (.set 3 (.lit (.int 0))),
    (.ife (.cmp .Gt (.pr .len [(.pr .ix [(.v 0), (.lit (.int 0))])]) (.lit (.int 0))) [(.set 3 (.pr .abs [(.pr .ix [(.pr .ix [(.v 0), (.lit (.int 0))]), (.pr (.bin .Mod) [(.pr .intOf [(.pr .ix [(.v 0), (.lit (.int 1))])]), (.pr .len [(.pr .ix [(.v 0), (.lit (.int 0))])])])])]))] []),
    (.put (.v 0) (.lit (.int 1)) (.pr (.bin .Add) [(.pr .ix [(.v 0), (.lit (.int 1))]), (.lit (.int 1))])),
    (.ife (.cmp .GtE (.v 3) (.pr (.bin .Pow) [(.lit (.int 10)), (.lit (.int 18))])) [(.put (.v 0) (.lit (.int 2)) (.pr (.bin .FloorDiv) [(.v 3), (.v 1)])),
    (.ret (.pr (.bin .Mod) [(.pr .intOf [(.v 3)]), (.v 1)]))] []),
    (.set 4 (.pr (.bin .Mod) [(.pr .intOf [(.pr (.bin .Add) [(.pr (.bin .Mult) [(.pr (.bin .Add) [(.v 3), (.lit (.int 1))]), (.lit (.int 48271))]), (.pr (.bin .Mult) [(.pr .ix [(.v 0), (.lit (.int 3))]), (.lit (.int 69621))])])]), (.lit (.int 2147483647))])),
    (.set 4 (.pr (.bin .Mod) [(.pr .intOf [(.pr (.bin .Add) [(.pr (.bin .Add) [(.pr (.bin .Mult) [(.v 4), (.lit (.int 16807))]), (.pr (.bin .FloorDiv) [(.v 3), (.lit (.int 97))])]), (.pr .ix [(.v 0), (.lit (.int 3))])])]), (.lit (.int 2147483629))])),
    (.ret (.pr (.bin .Mod) [(.pr (.bin .FloorDiv) [(.v 4), (.lit (.int 11))]), (.v 1)]))]⟩
abbrev N7 : List Str := ["state", "most", "found", "cell", "mixed"]
abbrev P7 : List Str := ["state", "most"]
abbrev s7 : Stmt := top 17
/-- _law_one_of -/
def f8 : Z.Fn := ⟨2, 2,
   [(.ret (.pr .ix [(.v 1), (.call 7 [(.v 0), (.pr .len [(.v 1)])])]))]⟩
abbrev N8 : List Str := ["state", "items"]
abbrev P8 : List Str := ["state", "items"]
abbrev s8 : Stmt := top 18
/-- _law_is_int -/
def f9 : Z.Fn := ⟨1, 1,
   [(.ret (.bopV true [(.pr (.isi .int) [(.v 0)]), (.notV (.pr (.isi .bool) [(.v 0)]))]))]⟩
abbrev N9 : List Str := ["x"]
abbrev P9 : List Str := ["x"]
abbrev s9 : Stmt := top 19
/-- _law_same -/
def f10 : Z.Fn := ⟨2, 3,
   [(.ife (.e (.pr (.isi .tuple) [(.v 1)])) [(.ife (.bop false [(.not (.e (.pr (.isi .tuple) [(.v 0)]))), (.cmp .NotEq (.pr .len [(.v 0)]) (.pr .len [(.v 1)]))]) [(.ret (.lit (.bl false)))] []),
    (.ret (.pr .allOf [(.comp (.v 2) [2] (.rng [(.pr .len [(.v 1)])]) [] (.call 10 [(.pr .ix [(.v 0), (.v 2)]), (.pr .ix [(.v 1), (.v 2)])]))]))] []),
    (.ife (.e (.pr (.isi .str) [(.v 1)])) [(.ret (.bopV true [(.pr (.isi .str) [(.v 0)]), (.pr (.cmp .Eq) [(.v 0), (.v 1)])]))] []),
    (.ret (.bopV true [(.call 9 [(.v 0)]), (.pr (.cmp .Eq) [(.v 0), (.v 1)])]))]⟩
abbrev N10 : List Str := ["x", "y", "k"]
abbrev P10 : List Str := ["x", "y"]
abbrev s10 : Stmt := top 20
/-- _law_integer_drawn -/
def f11 : Z.Fn := ⟨1, 7,
   [(.set 1 (.pr .ix [(.lst [(.lit (.int 1)), (.lit (.int 2)), (.lit (.int 5)), (.lit (.int 63)), (.lit (.int 64)), (.lit (.int 65)), (.pr (.bin .Add) [(.lit (.int 1)), (.call 7 [(.v 0), (.lit (.int 180))])])]), (.call 7 [(.v 0), (.lit (.int 7))])])),
    (.set 2 (.call 7 [(.v 0), (.lit (.int 4))])),
    (.set 3 (.lit (.str []))),
    (.set 4 (.lit (.int 0))),
    (.fr (.v 5) (.rng [(.v 1)]) [(.set 6 (.call 7 [(.v 0), (.lit (.int 10))])),
    (.ife (.cmp .Eq (.v 2) (.lit (.int 0))) [(.set 6 (.lit (.int 9)))] [(.ife (.cmp .Eq (.v 2) (.lit (.int 1))) [(.set 6 (.pr .intOf [(.pr (.cmp .Eq) [(.v 5), (.lit (.int 0))])]))] [])]),
    (.ife (.bop true [(.cmp .Eq (.v 5) (.lit (.int 0))), (.cmp .Eq (.v 6) (.lit (.int 0)))]) [(.set 6 (.pr .intOf [(.pr (.cmp .Gt) [(.v 1), (.lit (.int 1))])]))] []),
    (.set 3 (.pr (.bin .Add) [(.v 3), (.pr .ix [(.lit (.str [48, 49, 50, 51, 52, 53, 54, 55, 56, 57])), (.v 6)])])),
    (.set 4 (.pr (.bin .Add) [(.pr (.bin .Mult) [(.lit (.int 10)), (.v 4)]), (.v 6)]))]),
    (.ife (.bop true [(.cmp .Gt (.v 4) (.lit (.int 0))), (.cmp .Eq (.call 7 [(.v 0), (.lit (.int 3))]) (.lit (.int 0)))]) [(.ret (.tup [(.pr .neg [(.v 4)]), (.pr (.bin .Add) [(.lit (.str [45])), (.v 3)])]))] []),
    (.ret (.tup [(.v 4), (.v 3)]))]⟩
abbrev N11 : List Str := ["state", "many", "pick", "text", "number", "k", "digit"]
abbrev P11 : List Str := ["state"]
abbrev s11 : Stmt := top 21
/-- _law_text_drawn -/
def f12 : Z.Fn := ⟨1, 4,
   [(.set 1 (.lit (.str [32, 33, 35, 36, 38, 40, 41, 42, 43, 44, 45, 46, 47, 48, 49, 57, 58, 59, 60, 61, 62, 63, 64, 65, 90, 91, 93, 94, 95, 97, 122, 123, 124, 125, 126]))),
    (.set 2 (.mp .join (.lit (.str [])) [(.comp (.v 3) [3] (.rng [(.call 7 [(.v 0), (.lit (.int 6))])]) [] (.call 8 [(.v 0), (.v 1)]))])),
    (.ret (.tup [(.v 2), (.pr (.bin .Add) [(.pr (.bin .Add) [(.lit (.str [39])), (.v 2)]), (.lit (.str [39]))])]))]⟩
abbrev N12 : List Str := ["state", "signs", "text", "k"]
abbrev P12 : List Str := ["state"]
abbrev s12 : Stmt := top 22
/-- _law_datum_drawn -/
def f13 : Z.Fn := ⟨2, 7,
   [(.set 2 (.call 7 [(.v 0), (.lit (.int 6))])),
    (.ife (.bop false [(.cmp .Eq (.v 1) (.lit (.int 0))), (.cmp .Eq (.v 2) (.lit (.int 0)))]) [(.ret (.call 11 [(.v 0)]))] []),
    (.ife (.cmp .Eq (.v 2) (.lit (.int 1))) [(.ret (.call 12 [(.v 0)]))] []),
    (.set 3 (.comp (.v 4) [4] (.rng [(.call 7 [(.v 0), (.lit (.int 5))])]) [] (.call 13 [(.v 0), (.pr (.bin .Sub) [(.v 1), (.lit (.int 1))])]))),
    (.ret (.tup [(.pr .tupleOf [(.comp (.tup [(.v 5), (.v 6)]) [5, 6] (.seq (.v 3)) [] (.v 5))]), (.pr (.bin .Add) [(.pr (.bin .Add) [(.lit (.str [40])), (.mp .join (.lit (.str [44, 32])) [(.comp (.tup [(.v 5), (.v 6)]) [5, 6] (.seq (.v 3)) [] (.v 6))])]), (.lit (.str [41]))])]))]⟩
abbrev N13 : List Str := ["state", "depth", "pick", "rows", "k", "datum", "text"]
abbrev P13 : List Str := ["state", "depth"]
abbrev s13 : Stmt := top 23
/-- _law_is_refused -/
def f14 : Z.Fn := ⟨2, 3,
   [(.tryE [(.exp (.callv 0 [(.v 1)]))] 1 2 (.isi 0)),
    (.ret (.lit (.bl false)))]⟩
abbrev N14 : List Str := ["read", "text", "e"]
abbrev P14 : List Str := ["read", "text"]
abbrev s14 : Stmt := top 24
/-- _law_bad_integers -/
def f15 : Z.Fn := ⟨1, 2,
   [(.set 1 (.lst [(.lit (.str [])), (.lit (.str [45])), (.lit (.str [45, 48])), (.pr (.bin .Add) [(.lit (.str [43])), (.v 0)]), (.pr (.bin .Add) [(.lit (.str [32])), (.v 0)]), (.pr (.bin .Add) [(.v 0), (.lit (.str [32]))]), (.lit (.str [48, 48])), (.pr (.bin .Add) [(.lit (.str [48])), (.v 0)]), (.lit (.str [45, 45, 49])), (.lit (.str [49, 45])), (.pr (.bin .Add) [(.v 0), (.lit (.str [120]))]), (.lit (.str [97])), (.lit (.str [40, 41]))])),
    (.ret (.pr (.bin .Add) [(.v 1), (.lst [(.pr (.bin .Add) [(.v 0), (.lit (.str [46, 48]))]), (.lit (.str [49, 32, 50])), (.lit (.str [49, 44, 50])), (.lit (.str [39, 49, 39])), (.lit (.str [40, 49, 41])), (.lit (.str [48, 120, 49])), (.lit (.str [49, 95, 48]))])]))]⟩
abbrev N15 : List Str := ["text", "found"]
abbrev P15 : List Str := ["text"]
abbrev s15 : Stmt := top 25
/-- _law_bad_data -/
def f16 : Z.Fn := ⟨2, 4,
   [(.set 2 (.call 7 [(.v 0), (.pr (.bin .Add) [(.pr .len [(.v 1)]), (.lit (.int 1))])])),
    (.set 3 (.lst [(.lit (.str [])), (.lit (.str [32])), (.lit (.str [40])), (.lit (.str [41])), (.pr (.bin .Add) [(.v 1), (.lit (.str [32]))]), (.pr (.bin .Add) [(.lit (.str [32])), (.v 1)]), (.pr (.bin .Add) [(.v 1), (.lit (.str [41]))]), (.pr (.bin .Add) [(.lit (.str [40])), (.v 1)]), (.pr (.bin .Add) [(.pr (.bin .Add) [(.v 1), (.lit (.str [44, 32]))]), (.v 1)]), (.lit (.str [39])), (.lit (.str [39, 97])), (.lit (.str [97, 39])), (.lit (.str [122, 122]))])),
    (.set 3 (.pr (.bin .Add) [(.v 3), (.lst [(.lit (.str [40, 49, 44, 50, 41])), (.lit (.str [40, 49, 44, 32, 32, 50, 41])), (.lit (.str [40, 49, 32, 44, 32, 50, 41])), (.lit (.str [40, 32, 49, 41])), (.lit (.str [40, 49, 32, 41])), (.lit (.str [40, 49, 44, 32, 41])), (.lit (.str [40, 44, 32, 49, 41])), (.lit (.str [40, 49, 44, 41])), (.lit (.str [40, 39, 97, 39, 39, 98, 39, 41])), (.lit (.str [40, 48, 49, 41])), (.lit (.str [40, 45, 48, 41]))])])),
    (.ret (.pr (.bin .Add) [(.v 3), (.lst [(.lit (.str [91, 49, 93])), (.lit (.str [40, 49, 59, 32, 50, 41])), (.pr (.bin .Add) [(.pr (.bin .Add) [(.lit (.str [39, 97])), (.lit (.str [10]))]), (.lit (.str [98, 39]))]), (.pr (.bin .Add) [(.v 1), (.lit (.str [10]))]), (.lit (.str [40, 39, 97, 41])), (.lit (.str [40, 40, 49, 44, 32, 50, 41])), (.lit (.str [40, 49, 44, 32, 50, 41, 41])), (.pr (.bin .Add) [(.pr (.bin .Add) [(.sl (.v 1) none (some (.v 2))), (.lit (.str [10]))]), (.sl (.v 1) (some (.v 2)) none)])])]))]⟩
abbrev N16 : List Str := ["state", "text", "at", "found"]
abbrev P16 : List Str := ["state", "text"]
abbrev s16 : Stmt := top 26
/-- law -/
def f17 : Z.Fn := ⟨1, 11,
   [(.set 1 (.call 6 [(.v 0)])),
    (.fr (.v 2) (.rng [(.lit (.int 4))]) [(.setT (.tup [(.v 3), (.v 4)]) (.call 11 [(.v 1)])),
    (.ife (.bop false [(.not (.e (.call 10 [(.call 0 [(.v 3)]), (.v 4)]))), (.not (.e (.call 10 [(.call 1 [(.v 4)]), (.v 3)])))]) [(.ret (.lit (.bl false)))] []),
    (.setT (.tup [(.v 5), (.v 6)]) (.call 13 [(.v 1), (.lit (.int 6))])),
    (.ife (.bop false [(.not (.e (.call 10 [(.call 2 [(.v 5)]), (.v 6)]))), (.not (.e (.call 10 [(.call 5 [(.v 6)]), (.v 5)])))]) [(.ret (.lit (.bl false)))] []),
    (.ife (.not (.e (.call 14 [(.fn 1), (.call 8 [(.v 1), (.call 15 [(.v 4)])])]))) [(.ret (.lit (.bl false)))] []),
    (.ife (.not (.e (.call 14 [(.fn 5), (.call 8 [(.v 1), (.call 16 [(.v 1), (.v 6)])])]))) [(.ret (.lit (.bl false)))] [])]),
    (.set 7 (.pr (.bin .Add) [(.lit (.int 1)), (.pr .abs [(.v 3)])])),
    (.set 6 (.pr .strOf [(.v 7)])),
    (.fr (.v 2) (.rng [(.lit (.int 280))]) [(.set 7 (.pr (.bin .Add) [(.pr (.bin .Mult) [(.v 7), (.pr (.bin .Pow) [(.lit (.int 10)), (.lit (.int 18))])]), (.v 2)])),
    (.set 6 (.pr (.bin .Add) [(.v 6), (.sl (.pr .strOf [(.pr (.bin .Add) [(.pr (.bin .Pow) [(.lit (.int 10)), (.lit (.int 18))]), (.v 2)])]) (some (.lit (.int 1))) none)]))]),
    (.ife (.bop false [(.not (.e (.call 10 [(.call 0 [(.v 7)]), (.v 6)]))), (.not (.e (.call 10 [(.call 1 [(.v 6)]), (.v 7)])))]) [(.ret (.lit (.bl false)))] []),
    (.set 8 (.pr (.bin .Add) [(.lit (.int 18)), (.call 7 [(.v 1), (.lit (.int 5))])])),
    (.setT (.tup [(.v 3), (.v 4)]) (.call 11 [(.v 1)])),
    (.set 9 (.pr (.bin .Add) [(.pr (.bin .Add) [(.pr (.bin .Mult) [(.lit (.str [40])), (.v 8)]), (.v 4)]), (.pr (.bin .Mult) [(.lit (.str [41])), (.v 8)])])),
    (.ife (.cmp .Gt (.v 8) (.lit (.int 20))) [(.ret (.bopV true [(.call 14 [(.fn 5), (.v 9)]), (.call 14 [(.fn 5), (.pr (.bin .Add) [(.pr (.bin .Mult) [(.lit (.str [40])), (.v 8)]), (.pr (.bin .Mult) [(.lit (.str [41])), (.v 8)])])])]))] []),
    (.set 5 (.v 3)),
    (.fr (.v 10) (.rng [(.v 8)]) [(.set 5 (.tup [(.v 5)]))]),
    (.ret (.bopV true [(.call 10 [(.call 5 [(.v 9)]), (.v 5)]), (.call 10 [(.call 2 [(.v 5)]), (.v 9)])]))]⟩
abbrev N17 : List Str := ["script", "state", "turn", "number", "text", "datum", "written", "great", "deep", "nest", "k"]
abbrev P17 : List Str := ["script"]
abbrev s17 : Stmt := top 27
def gls : List Z.D := [(.int 10000000000000000000000000000000000000000000000000000000000000000), (.str [48, 49, 50, 51, 52, 53, 54, 55, 56, 57]), (.int 20), (.str [45, 48, 49, 50, 51, 52, 53, 54, 55, 56, 57])]
def subT : List (List Bool) := [[true, false], [true, true]]
def tb : Z.Tbl := { fns := [f0, f1, f2, f3, f4, f5, f6, f7, f8, f9, f10, f11, f12, f13, f14, f15, f16, f17], glob := fun i => gls[i]?, init := fun _ => none, meth := fun _ _ => none, sub := fun a b => (subT.getD a []).getD b false, flds := fun _ => [] }
abbrev defTop : List Nat := [6, 7, 11, 12, 13, 14, 16, 17, 18, 19, 20, 21, 22, 23, 24, 25, 26, 27]
theorem c0 : Z.chkSs nm N0 (defScope s0) (defBody s0) f0.body = true := by decide +kernel
theorem o0 : Z.scopeB N0 P0 (defScope s0) = true := by decide +kernel
theorem c1 : Z.chkSs nm N1 (defScope s1) (defBody s1) f1.body = true := by decide +kernel
theorem o1 : Z.scopeB N1 P1 (defScope s1) = true := by decide +kernel
theorem c2 : Z.chkSs nm N2 (defScope s2) (defBody s2) f2.body = true := by decide +kernel
theorem o2 : Z.scopeB N2 P2 (defScope s2) = true := by decide +kernel
theorem c3 : Z.chkSs nm N3 (defScope s3) (defBody s3) f3.body = true := by decide +kernel
theorem o3 : Z.scopeB N3 P3 (defScope s3) = true := by decide +kernel
theorem c4 : Z.chkSs nm N4 (defScope s4) (defBody s4) f4.body = true := by decide +kernel
theorem o4 : Z.scopeB N4 P4 (defScope s4) = true := by decide +kernel
theorem c5 : Z.chkSs nm N5 (defScope s5) (defBody s5) f5.body = true := by decide +kernel
theorem o5 : Z.scopeB N5 P5 (defScope s5) = true := by decide +kernel
theorem c6 : Z.chkSs nm N6 (defScope s6) (defBody s6) f6.body = true := by decide +kernel
theorem o6 : Z.scopeB N6 P6 (defScope s6) = true := by decide +kernel
theorem c7 : Z.chkSs nm N7 (defScope s7) (defBody s7) f7.body = true := by decide +kernel
theorem o7 : Z.scopeB N7 P7 (defScope s7) = true := by decide +kernel
theorem c8 : Z.chkSs nm N8 (defScope s8) (defBody s8) f8.body = true := by decide +kernel
theorem o8 : Z.scopeB N8 P8 (defScope s8) = true := by decide +kernel
theorem c9 : Z.chkSs nm N9 (defScope s9) (defBody s9) f9.body = true := by decide +kernel
theorem o9 : Z.scopeB N9 P9 (defScope s9) = true := by decide +kernel
theorem c10 : Z.chkSs nm N10 (defScope s10) (defBody s10) f10.body = true := by decide +kernel
theorem o10 : Z.scopeB N10 P10 (defScope s10) = true := by decide +kernel
theorem c11 : Z.chkSs nm N11 (defScope s11) (defBody s11) f11.body = true := by decide +kernel
theorem o11 : Z.scopeB N11 P11 (defScope s11) = true := by decide +kernel
theorem c12 : Z.chkSs nm N12 (defScope s12) (defBody s12) f12.body = true := by decide +kernel
theorem o12 : Z.scopeB N12 P12 (defScope s12) = true := by decide +kernel
theorem c13 : Z.chkSs nm N13 (defScope s13) (defBody s13) f13.body = true := by decide +kernel
theorem o13 : Z.scopeB N13 P13 (defScope s13) = true := by decide +kernel
theorem c14 : Z.chkSs nm N14 (defScope s14) (defBody s14) f14.body = true := by decide +kernel
theorem o14 : Z.scopeB N14 P14 (defScope s14) = true := by decide +kernel
theorem c15 : Z.chkSs nm N15 (defScope s15) (defBody s15) f15.body = true := by decide +kernel
theorem o15 : Z.scopeB N15 P15 (defScope s15) = true := by decide +kernel
theorem c16 : Z.chkSs nm N16 (defScope s16) (defBody s16) f16.body = true := by decide +kernel
theorem o16 : Z.scopeB N16 P16 (defScope s16) = true := by decide +kernel
theorem c17 : Z.chkSs nm N17 (defScope s17) (defBody s17) f17.body = true := by decide +kernel
theorem o17 : Z.scopeB N17 P17 (defScope s17) = true := by decide +kernel
end K57

set_option Elab.async false
set_option linter.all false
set_option maxRecDepth 100000
set_option maxHeartbeats 4000000
set_option autoImplicit false
/-! k57, the plain law: integers. -/
set_option exponentiation.threshold 20000
namespace K57
open Z
/-- the written form -/
def wi (z : Int) : List Nat := if z < 0 then 45 :: digits z.natAbs else digits z.natAbs
theorem joinL_nil : ∀ xs : List (List Nat), joinL [] xs = xs.flatten
  | [] => rfl
  | [x] => by simp [joinL]
  | x :: y :: r => by
    show x ++ [] ++ joinL [] (y :: r) = _
    rw [joinL_nil (y :: r)]
    simp
theorem joinLen_nil : ∀ xs : List (List Nat), joinLen [] xs = xs.flatten.length
  | [] => rfl
  | x :: r => by
    have := joinLen_nil r
    unfold joinLen at this ⊢
    simp at this ⊢
theorem strsOf_str : ∀ xs : List (List Nat), strsOf (xs.map D.str) = some xs
  | [] => rfl
  | x :: r => by simp [strsOf, strsOf_str r]
abbrev BASE : Nat := 10000000000000000000000000000000000000000000000000000000000000000
theorem base_pow : BASE = 10 ^ 64 := by decide +kernel
def wst (S : List Cell) (n : Nat) (cs : List (List Nat)) (low : Slot) : Sta := ⟨[.sh (.int n), .own (.L (cs.map .str)), low], S⟩
noncomputable abbrev wcond (k : Nat) : Sta → Res Bool := evt (prog tb k) (.cmp .GtE (.v 0) (.g 0))
noncomputable abbrev wbody (k : Nat) : Sta → RS := execs (prog tb k) [(.setT (.tup [(.v 0), (.v 2)]) (.pr .divmodOf [(.v 0), (.g 0)])), (.exp (.mu .append (.v 1) [(.mp .zfill (.pr .strOf [(.v 2)]) [(.lit (.int 64))])]))]
theorem wcond_ok (k : Nat) (S : List Cell) (n : Nat) (cs : List (List Nat)) (low : Slot) : wcond k (wst S n cs low) = .ok (decide (BASE ≤ n)) (wst S n cs low) := by
  have e : ((BASE : Nat) : Int) ≤ (n : Int) ↔ BASE ≤ n := by omega
  simp [wcond, evt, rdArg, wst, Res.bind, ev, prog, tb, gls, lift, Arg.get, derefS, cmpD]
  exact e
theorem log_lt {n k : Nat} (h : n < 2 ^ k) (hk : 0 < k) : n.log2 < k := by
  by_cases hn : n = 0
  · subst hn; simpa using hk
  · exact (Nat.log2_lt hn).mpr h
theorem log_base {n : Nat} (h : n < BASE) : n.log2 < 1920 := log_lt (Nat.lt_trans h (by decide +kernel)) (by decide)
theorem wbody_ok (k : Nat) (S : List Cell) (n : Nat) (cs : List (List Nat)) (low : Slot) (h : cs.length < 1000) : wbody k (wst S n cs low) = .next (wst S (n / BASE) (cs ++ [fw 64 (n % BASE)]) (.sh (.int (n % BASE : Nat)))) := by
  have hm : n % BASE < BASE := Nat.mod_lt _ (by decide)
  have hd : divOk (10000000000000000000000000000000000000000000000000000000000000000 : Int) = true := by decide +kernel
  have hl := log_base hm
  have hp := pad_fw 64 (n % BASE) (by decide) (by rw [← base_pow]; exact hm)
  have e1 : (n : Int) / 10000000000000000000000000000000000000000000000000000000000000000 = ((n / BASE : Nat) : Int) := by simp
  have e2 : (n : Int) % 10000000000000000000000000000000000000000000000000000000000000000 = ((n % BASE : Nat) : Int) := by simp
  have hlim : cs.length < LIM := Nat.lt_trans h (by decide)
  have ha := allDig_digits (n % BASE)
  have h0 : (0 : Int) ≤ ((n % BASE : Nat) : Int) := by omega
  generalize hq : n % BASE = q at *
  generalize hq2 : n / BASE = q2 at *
  simp [wbody, execs, exec, wst, ev, evrs, evs, rdArg, rdPlace, prog, tb, gls, lift, Arg.get, getAll, derefS, prim, prim2, prim1, divmodD, hd, Res.bind, Res.then, RS.seq, assign, assigns, isList, Place.get, Place.set, strD, hl, mprim, mprim2, mrecv, zfillD, ha, e1, e2, mutC, appendC, hlim, hp]
theorem wloop (k : Nat) (S : List Cell) : ∀ (j n : Nat) (cs : List (List Nat)) (low : Slot), n < 10 ^ (64 * (j + 1)) → cs.length + j < 1000 →
    ∃ m cs' low', whileL (wcond k) (wbody k) (wst S n cs low) = .next (wst S m cs' low') ∧ m < BASE ∧ digits n ++ cs.reverse.flatten = digits m ++ cs'.reverse.flatten ∧ cs'.length < 1000
  | 0, n, cs, low, hn, hc => by
    have hn : n < BASE := by rw [base_pow]; exact hn
    exact ⟨n, cs, low, while_end (by rw [wcond_ok, decide_eq_false (by omega)]), hn, rfl, by omega⟩
  | j + 1, n, cs, low, hn, hc => by
    by_cases hb : BASE ≤ n
    · have h1 : n / BASE < 10 ^ (64 * (j + 1)) := by
        rw [Nat.div_lt_iff_lt_mul (by decide), base_pow, ← Nat.pow_add]
        exact hn
      obtain ⟨m, cs', low', e1, e2, e3, e4⟩ := wloop k S j (n / BASE) (cs ++ [fw 64 (n % BASE)]) (.sh (.int (n % BASE : Nat))) h1 (by simp; omega)
      refine ⟨m, cs', low', ?_, e2, ?_, e4⟩
      · rw [while_next (s1 := wst S n cs low) (by rw [wcond_ok, decide_eq_true hb]) (.inl (wbody_ok k S n cs low (by omega))) (by rw [e1]; simp), e1]
      · rw [← e3]
        have hd : digits n = digits (n / BASE) ++ fw 64 (n % BASE) := by
          have := digits_fw (a := n / BASE) (Nat.div_pos hb (by decide)) 64 (n % BASE) (by rw [← base_pow]; exact Nat.mod_lt _ (by decide))
          rw [← this, ← base_pow, Nat.mul_comm, Nat.div_add_mod]
        rw [hd]
        simp
    · exact ⟨n, cs, low, while_end (by rw [wcond_ok, decide_eq_false hb]), by omega, rfl, by omega⟩
theorem write_nat (k : Nat) (S : List Cell) (n : Nat) (hn : n < 10 ^ 9600) : Phi tb (k + 1) 0 [.int n] S = .ok false (.str (digits n)) S := by
  rw [phi_succ (fn := f0) rfl rfl (by decide)]
  obtain ⟨m, cs, low, e1, e2, e3, e4⟩ := wloop k S 149 n [] .no hn (by decide)
  have hl := log_base e2
  have hlen := digits_len (by decide) hn
  have hlim : cs.length < LIM := Nat.lt_trans e4 (by decide)
  have h0 : ¬ (n : Int) < 0 := by omega
  have ej : joinL [] ((digits m) :: cs.reverse) = digits n := by
    rw [joinL_nil]
    simpa using e3.symm
  have el : joinLen [] ((digits m) :: cs.reverse) ≤ LIM := by
    rw [joinLen_nil]
    have : ((digits m) :: cs.reverse).flatten = digits n := by simpa using e3.symm
    rw [this]
    exact Nat.le_trans hlen (by decide)
  have es : strsOf (D.str (digits m) :: (cs.map D.str).reverse) = some (digits m :: cs.reverse) := by
    have := strsOf_str (digits m :: cs.reverse)
    simpa using this
  have st1 : exec (prog tb k) (.ife (.cmp .Lt (.v 0) (.lit (.int 0))) [(.ret (.pr (.bin .Add) [(.lit (.str [45])), (.call 0 [(.pr .neg [(.v 0)])])]))] []) ⟨[.sh (.int n), .no, .no], S⟩ = .next ⟨[.sh (.int n), .no, .no], S⟩ := by
    simp [exec, evt, rdArg, ev, Res.bind, Res.then, Arg.get, derefS, cmpD, execs, h0]
  have st2 : exec (prog tb k) (.set 1 (.lst [])) ⟨[.sh (.int n), .no, .no], S⟩ = .next (wst S n [] .no) := by
    simp [exec, ev, evs, Res.bind, Res.then, bindTo, toCell, wst]
  have st3 : exec (prog tb k) (.whl (.cmp .GtE (.v 0) (.g 0)) [(.setT (.tup [(.v 0), (.v 2)]) (.pr .divmodOf [(.v 0), (.g 0)])), (.exp (.mu .append (.v 1) [(.mp .zfill (.pr .strOf [(.v 2)]) [(.lit (.int 64))])]))]) (wst S n [] .no) = .next (wst S m cs low) := by
    simp only [exec]; exact e1
  have st4 : exec (prog tb k) (.exp (.mu .append (.v 1) [(.pr .strOf [(.v 0)])])) (wst S m cs low) = .next (wst S m (cs ++ [digits m]) low) := by
    have h0 : (0 : Int) ≤ (m : Int) := by omega
    simp [exec, wst, ev, evrs, evs, rdArg, rdPlace, lift, Arg.get, getAll, derefS, prim, prim1, Res.bind, Res.then, isList, Place.get, Place.set, strD, hl, mutC, appendC, hlim]
  show fin S.length (execs (prog tb k) f0.body ⟨[.sh (.int n), .no, .no], S⟩) = _
  unfold f0
  simp only
  rw [seq_next st1, seq_next st2, seq_next st3, seq_next st4]
  simp [execs, exec, wst, ev, evrs, evs, rdArg, lift, Arg.get, getAll, derefS, prim, prim1, revD, Cell.view, mrecv, mprim, mprim2, joinD, seqOf, es, el, ej, Res.bind, Res.then, RS.seq, fin, gc]
theorem write_int (k : Nat) (S : List Cell) (z : Int) (hz : z.natAbs < 10 ^ 9600) : Phi tb (k + 2) 0 [.int z] S = .ok false (.str (wi z)) S := by
  by_cases h : z < 0
  · rw [phi_succ (fn := f0) rfl rfl (by decide)]
    have e : (-z) = ((z.natAbs : Nat) : Int) := by omega
    have hw := write_nat k S z.natAbs hz
    have hl := digits_len (by decide) hz
    have hl2 : 1 + (digits z.natAbs).length ≤ LIM := Nat.le_trans (Nat.add_le_add_left hl 1) (by decide)
    simp [f0, execs, exec, evt, rdArg, ev, evs, evrs, Res.bind, Res.then, Arg.get, getAll, derefS, cmpD, h, prim, prim1, negD, lift, e, prog, hw, fromF, prim2, binD, hl2, RS.seq, fin, gc, wi]
  · have e : z = ((z.natAbs : Nat) : Int) := by omega
    rw [e, write_nat (k + 1) S z.natAbs hz]
    unfold wi
    rw [if_neg (by omega)]
    simp
end K57

set_option Elab.async false
set_option linter.all false
set_option maxRecDepth 100000
set_option maxHeartbeats 4000000
set_option autoImplicit false
set_option exponentiation.threshold 50000
/-! k57, the plain law: integers read. -/
namespace K57
open Z
def dg (x : List Nat) : List Nat := if x.take 1 = [45] then x.drop 1 else x
def isD (c : Nat) : Bool := decide (48 ≤ c ∧ c ≤ 57)
def badHead (x : List Nat) : Bool := decide (dg x = []) || (decide ((dg x).head? = some 48) && !decide (x = [48]))
def okI (x : List Nat) : Bool := !badHead x && allDig (dg x)
def vi (x : List Nat) : Int := if x.take 1 = [45] then -(digVal (dg x) : Int) else digVal (dg x)
def rst (S : List Cell) (x d : List Nat) (c h n s : Slot) : Sta := ⟨[.sh (.str x), .sh (.str d), c, h, n, s], S⟩
theorem in_dig (c : Nat) : (decide (c ∈ [48, 49, 50, 51, 52, 53, 54, 55, 56, 57])) = isD c := by
  unfold isD
  have : c ∈ [48, 49, 50, 51, 52, 53, 54, 55, 56, 57] ↔ 48 ≤ c ∧ c ≤ 57 := by
    simp only [List.mem_cons, List.not_mem_nil, or_false]
    omega
  simp only [this]
noncomputable abbrev cbody (k : Nat) : D → Sta → RS := fbody (prog tb k) (.v 2) [(.ife (.cmp .NotIn (.v 2) (.g 1)) [(.rais 1 [])] [])]
theorem cbody_ok (k : Nat) (S : List Cell) (x d : List Nat) (c : Nat) (s2 s3 s4 s5 : Slot) :
    cbody k (.str [c]) (rst S x d s2 s3 s4 s5) = if isD c = true then .next (rst S x d (.sh (.str [c])) s3 s4 s5) else .exn (.mk 1 []) (rst S x d (.sh (.str [c])) s3 s4 s5) := by
  have h := in_dig c
  by_cases q : isD c = true
  · rw [if_pos q]
    rw [q] at h
    simp [cbody, fbody, rst, assign, execs, exec, evt, rdArg, ev, evs, prog, tb, gls, lift, Res.bind, Res.then, RS.seq, Arg.get, derefS, cmpD, inD, of_decide_eq_true h]
  · rw [if_neg q]
    rw [Bool.not_eq_true] at q
    rw [q] at h
    have h := of_decide_eq_false h
    simp at h
    simp [cbody, fbody, rst, assign, execs, exec, evt, rdArg, ev, evs, prog, tb, gls, lift, Res.bind, Res.then, RS.seq, Arg.get, derefS, cmpD, inD, h]
theorem cloop (k : Nat) (S : List Cell) (x d : List Nat) (s3 s4 s5 : Slot) : ∀ (l : List Nat) (s2 : Slot),
    (allDig l = true → ∃ s2', forL (cbody k) (l.map fun c => .str [c]) (rst S x d s2 s3 s4 s5) = .next (rst S x d s2' s3 s4 s5)) ∧
    (allDig l = false → ∃ s2', forL (cbody k) (l.map fun c => .str [c]) (rst S x d s2 s3 s4 s5) = .exn (.mk 1 []) (rst S x d s2' s3 s4 s5))
  | [], s2 => ⟨fun _ => ⟨s2, rfl⟩, fun h => by simp [allDig] at h⟩
  | c :: l, s2 => by
    have hc := cbody_ok k S x d c s2 s3 s4 s5
    have e : allDig (c :: l) = (isD c && allDig l) := rfl
    obtain ⟨i1, i2⟩ := cloop k S x d s3 s4 s5 l (.sh (.str [c]))
    by_cases q : isD c = true
    · rw [if_pos q] at hc
      rw [e, q, Bool.true_and]
      refine ⟨fun h => ?_, fun h => ?_⟩
      · obtain ⟨s', e'⟩ := i1 h
        exact ⟨s', by simp only [List.map_cons, forL, hc]; exact e'⟩
      · obtain ⟨s', e'⟩ := i2 h
        exact ⟨s', by simp only [List.map_cons, forL, hc]; exact e'⟩
    · rw [if_neg q] at hc
      rw [Bool.not_eq_true] at q
      rw [e, q, Bool.false_and]
      exact ⟨fun h => (by cases h), fun _ => ⟨.sh (.str [c]), by simp only [List.map_cons, forL, hc]⟩⟩
noncomputable abbrev nbody (k : Nat) : D → Sta → RS := fbody (prog tb k) (.v 5) [(.set 4 (.pr (.bin .Add) [(.pr (.bin .Mult) [(.v 4), (.g 0)]), (.pr .intOf [(.sl (.v 1) (some (.v 5)) (some (.pr (.bin .Add) [(.v 5), (.lit (.int 64))])))])]))]
theorem dig_drop {d : List Nat} (h : allDig d = true) (a b : Nat) : allDig ((d.drop a).take b) = true := by
  unfold allDig at h ⊢
  rw [List.all_eq_true] at h ⊢
  exact fun c hc => h c (List.mem_of_mem_drop (List.mem_of_mem_take hc))
theorem log_big {n : Nat} (h : n < 10 ^ 9700) : n.log2 < 40000 := log_lt (Nat.lt_of_lt_of_le h (by
    calc (10 : Nat) ^ 9700 ≤ (2 ^ 4) ^ 9700 := Nat.pow_le_pow_left (by decide) _
      _ = 2 ^ (4 * 9700) := by rw [← Nat.pow_mul]
      _ ≤ 2 ^ 40000 := Nat.pow_le_pow_right (by decide) (by decide))) (by decide)
theorem mul_base {n : Nat} (h : n < 10 ^ 9700) : mulOk (n : Int) 10000000000000000000000000000000000000000000000000000000000000000 = true := by
  have h1 := log_big h
  have h2 : (10000000000000000000000000000000000000000000000000000000000000000 : Int).natAbs.log2 = 212 := by decide +kernel
  unfold mulOk
  rw [h2]
  have h3 : (n : Int).natAbs = n := by simp
  rw [h3]
  have : n.log2 + 212 < 900000 := by omega
  simp [this]
theorem nbody_ok (k : Nat) (S : List Cell) (x d : List Nat) (a n : Nat) (s2 s3 s5 : Slot) (hd : allDig d = true) (ha : a + 64 ≤ d.length) (hn : n < 10 ^ 9700) :
    nbody k (.int a) (rst S x d s2 s3 (.sh (.int n)) s5) = .next (rst S x d s2 s3 (.sh (.int (n * BASE + digVal ((d.drop a).take 64) : Nat))) (.sh (.int a))) := by
  have hm := mul_base hn
  have h1 := dig_drop hd a 64
  have h2 : ((d.drop a).take 64).length = 64 := by simp; omega
  have h3 : (d.drop a).take 64 ≠ [] := by intro z; rw [z] at h2; simp at h2
  have hc : cut d (some (a : Int)) (some ((a : Int) + 64)) = (d.drop a).take 64 := by
    have := cut_mid d a (a + 64)
    have e : ((a + 64 : Nat) : Int) = (a : Int) + 64 := by omega
    rw [e] at this
    rw [this]
    congr 1
    omega
  generalize hq : (d.drop a).take 64 = q at *
  simp [nbody, fbody, rst, assign, execs, exec, ev, evo, evrs, rdArg, readV, prog, tb, gls, lift, Res.bind, Res.then, RS.seq, Arg.get, getAll, derefS, prim, prim1, prim2, binD, hm, slD, hc, intD, h1, h2, h3, bindTo]
theorem nloop (k : Nat) (S : List Cell) (x d : List Nat) (s2 s3 : Slot) (hd : allDig d = true) (hl : d.length ≤ 9700) : ∀ (q a : Nat) (s5 : Slot), a + 64 * q = d.length →
    ∃ s5', forL (nbody k) (rangeS (a : Int) 64 q) (rst S x d s2 s3 (.sh (.int (digVal (d.take a) : Nat))) s5) = .next (rst S x d s2 s3 (.sh (.int (digVal d : Nat))) s5')
  | 0, a, s5, h => by
    have : d.take a = d := List.take_of_length_le (by omega)
    rw [this]
    exact ⟨s5, rfl⟩
  | q + 1, a, s5, h => by
    have hn : digVal (d.take a) < 10 ^ 9700 := by
      have h1 : allDig (d.take a) = true := by
        have := dig_drop hd 0 a
        simpa using this
      refine Nat.lt_of_lt_of_le (digVal_lt h1) (Nat.pow_le_pow_right (by decide) ?_)
      simp; omega
    have hb := nbody_ok k S x d a (digVal (d.take a)) s2 s3 s5 hd (by omega) hn
    have e : digVal (d.take a) * BASE + digVal ((d.drop a).take 64) = digVal (d.take (a + 64)) := by
      rw [List.take_add, digVal_app]
      have : ((d.drop a).take 64).length = 64 := by simp; omega
      rw [this, base_pow]
    rw [e] at hb
    obtain ⟨s5', ih⟩ := nloop k S x d s2 s3 hd hl q (a + 64) (.sh (.int a)) (by omega)
    refine ⟨s5', ?_⟩
    simp only [rangeS, forL]
    rw [hb]
    simp only
    have e2 : (a : Int) + 64 = ((a + 64 : Nat) : Int) := by omega
    rw [e2]
    exact ih
theorem dg_cons {c : Nat} {r : List Nat} : dg (c :: r) = if c = 45 then r else c :: r := by
  unfold dg
  by_cases h : c = 45
  · subst h; simp
  · simp [h]
theorem take_eq (x : List Nat) : (x.take 1 == [45]) = decide (x.take 1 = [45]) := by
  by_cases h : x.take 1 = [45] <;> simp [h]
theorem r_take1 (x : List Nat) : cut x none (some 1) = x.take 1 := cut_to x 1
theorem r_drop1 (x : List Nat) : cut x (some 1) none = x.drop 1 := cut_from x 1
section
variable (k : Nat) (S : List Cell) (x d : List Nat) (s2 s3 s4 s5 : Slot)
theorem r1 : exec (prog tb k) (.set 1 (.v 0)) ⟨[.sh (.str x), .no, .no, .no, .no, .no], S⟩ = .next (rst S x x .no .no .no .no) := by
  simp [exec, execs, ev, evs, evo, evrs, evt, evtb, evts, evit, evb, rdArg, rdPlace, readV, Place.get, Place.set, Arg.get, getAll, Res.bind, Res.then, RS.seq, lift, prim, prim1, prim2, binD, cmpD, ixD, slD, lenP, lenD, intD, negD, bindTo, assign, assigns, fin, derefS, gc, fit_str, fit_int, D.eqv, truthD, Cell.view, isList, mutC, mrecv, mprim, mprim2, mprim3, augD, toCell, Option.bind, fromF, isiP, isiD, tupleD, listD, seqOf, noX, iterD, isSh, rst]
theorem r2 : exec (prog tb k) (.ife (.cmp .Eq (.sl (.v 0) none (some (.lit (.int 1)))) (.lit (.str [45]))) [(.set 1 (.sl (.v 0) (some (.lit (.int 1))) none))] []) (rst S x x .no .no .no .no) = .next (rst S x (dg x) .no .no .no .no) := by
  have c1 := r_take1 x
  have c2 := r_drop1 x
  unfold dg
  by_cases h : x.take 1 = [45]
  · simp [exec, execs, ev, evs, evo, evrs, evt, evtb, evts, evit, evb, rdArg, rdPlace, readV, Place.get, Place.set, Arg.get, getAll, Res.bind, Res.then, RS.seq, lift, prim, prim1, prim2, binD, cmpD, ixD, slD, lenP, lenD, intD, negD, bindTo, assign, assigns, fin, derefS, gc, fit_str, fit_int, D.eqv, truthD, Cell.view, isList, mutC, mrecv, mprim, mprim2, mprim3, augD, toCell, Option.bind, fromF, isiP, isiD, tupleD, listD, seqOf, noX, iterD, isSh, rst, c1, c2, h]
  · simp [exec, execs, ev, evs, evo, evrs, evt, evtb, evts, evit, evb, rdArg, rdPlace, readV, Place.get, Place.set, Arg.get, getAll, Res.bind, Res.then, RS.seq, lift, prim, prim1, prim2, binD, cmpD, ixD, slD, lenP, lenD, intD, negD, bindTo, assign, assigns, fin, derefS, gc, fit_str, fit_int, D.eqv, truthD, Cell.view, isList, mutC, mrecv, mprim, mprim2, mprim3, augD, toCell, Option.bind, fromF, isiP, isiD, tupleD, listD, seqOf, noX, iterD, isSh, rst, c1, c2, h]
theorem r3 : exec (prog tb k) (.ife (.bop false [(.cmp .Eq (.v 1) (.lit (.str []))), (.bop true [(.cmp .Eq (.pr .ix [(.v 1), (.lit (.int 0))]) (.lit (.str [48]))), (.cmp .NotEq (.v 0) (.lit (.str [48])))])]) [(.rais 1 [])] []) (rst S x (dg x) .no .no .no .no) = if badHead x = true then .exn (.mk 1 []) (rst S x (dg x) .no .no .no .no) else .next (rst S x (dg x) .no .no .no .no) := by
  unfold badHead
  cases h : dg x with
  | nil => simp [exec, execs, ev, evs, evo, evrs, evt, evtb, evts, evit, evb, rdArg, rdPlace, readV, Place.get, Place.set, Arg.get, getAll, Res.bind, Res.then, RS.seq, lift, prim, prim1, prim2, binD, cmpD, ixD, slD, lenP, lenD, intD, negD, bindTo, assign, assigns, fin, derefS, gc, fit_str, fit_int, D.eqv, truthD, Cell.view, isList, mutC, mrecv, mprim, mprim2, mprim3, augD, toCell, Option.bind, fromF, isiP, isiD, tupleD, listD, seqOf, noX, iterD, isSh, rst, h]
  | cons c r =>
    by_cases h1 : c = 48
    · by_cases h2 : x = [48]
      · simp [exec, execs, ev, evs, evo, evrs, evt, evtb, evts, evit, evb, rdArg, rdPlace, readV, Place.get, Place.set, Arg.get, getAll, Res.bind, Res.then, RS.seq, lift, prim, prim1, prim2, binD, cmpD, ixD, slD, lenP, lenD, intD, negD, bindTo, assign, assigns, fin, derefS, gc, fit_str, fit_int, D.eqv, truthD, Cell.view, isList, mutC, mrecv, mprim, mprim2, mprim3, augD, toCell, Option.bind, fromF, isiP, isiD, tupleD, listD, seqOf, noX, iterD, isSh, rst, h, h1, h2, atI_zero]
      · simp [exec, execs, ev, evs, evo, evrs, evt, evtb, evts, evit, evb, rdArg, rdPlace, readV, Place.get, Place.set, Arg.get, getAll, Res.bind, Res.then, RS.seq, lift, prim, prim1, prim2, binD, cmpD, ixD, slD, lenP, lenD, intD, negD, bindTo, assign, assigns, fin, derefS, gc, fit_str, fit_int, D.eqv, truthD, Cell.view, isList, mutC, mrecv, mprim, mprim2, mprim3, augD, toCell, Option.bind, fromF, isiP, isiD, tupleD, listD, seqOf, noX, iterD, isSh, rst, h, h1, h2, atI_zero]
    · simp [exec, execs, ev, evs, evo, evrs, evt, evtb, evts, evit, evb, rdArg, rdPlace, readV, Place.get, Place.set, Arg.get, getAll, Res.bind, Res.then, RS.seq, lift, prim, prim1, prim2, binD, cmpD, ixD, slD, lenP, lenD, intD, negD, bindTo, assign, assigns, fin, derefS, gc, fit_str, fit_int, D.eqv, truthD, Cell.view, isList, mutC, mrecv, mprim, mprim2, mprim3, augD, toCell, Option.bind, fromF, isiP, isiD, tupleD, listD, seqOf, noX, iterD, isSh, rst, h, h1, atI_zero]
theorem r4 : exec (prog tb k) (.fr (.v 2) (.seq (.v 1)) [(.ife (.cmp .NotIn (.v 2) (.g 1)) [(.rais 1 [])] [])]) (rst S x d s2 s3 s4 s5) = forL (cbody k) (d.map fun c => .str [c]) (rst S x d s2 s3 s4 s5) :=
  exec_fr (by simp [exec, execs, ev, evs, evo, evrs, evt, evtb, evts, evit, evb, rdArg, rdPlace, readV, Place.get, Place.set, Arg.get, getAll, Res.bind, Res.then, RS.seq, lift, prim, prim1, prim2, binD, cmpD, ixD, slD, lenP, lenD, intD, negD, bindTo, assign, assigns, fin, derefS, gc, fit_str, fit_int, D.eqv, truthD, Cell.view, isList, mutC, mrecv, mprim, mprim2, mprim3, augD, toCell, Option.bind, fromF, isiP, isiD, tupleD, listD, seqOf, noX, iterD, isSh, rst])
theorem r5 : exec (prog tb k) (.set 3 (.pr (.bin .Mod) [(.pr .len [(.v 1)]), (.lit (.int 64))])) (rst S x d s2 s3 s4 s5) = .next (rst S x d s2 (.sh (.int (d.length % 64 : Nat))) s4 s5) := by
  simp [exec, execs, ev, evs, evo, evrs, evt, evtb, evts, evit, evb, rdArg, rdPlace, readV, Place.get, Place.set, Arg.get, getAll, Res.bind, Res.then, RS.seq, lift, prim, prim1, prim2, binD, cmpD, ixD, slD, lenP, lenD, intD, negD, bindTo, assign, assigns, fin, derefS, gc, fit_str, fit_int, D.eqv, truthD, Cell.view, isList, mutC, mrecv, mprim, mprim2, mprim3, augD, toCell, Option.bind, fromF, isiP, isiD, tupleD, listD, seqOf, noX, iterD, isSh, rst]
theorem r6 : exec (prog tb k) (.set 4 (.lit (.int 0))) (rst S x d s2 s3 s4 s5) = .next (rst S x d s2 s3 (.sh (.int 0)) s5) := by
  simp [exec, execs, ev, evs, evo, evrs, evt, evtb, evts, evit, evb, rdArg, rdPlace, readV, Place.get, Place.set, Arg.get, getAll, Res.bind, Res.then, RS.seq, lift, prim, prim1, prim2, binD, cmpD, ixD, slD, lenP, lenD, intD, negD, bindTo, assign, assigns, fin, derefS, gc, fit_str, fit_int, D.eqv, truthD, Cell.view, isList, mutC, mrecv, mprim, mprim2, mprim3, augD, toCell, Option.bind, fromF, isiP, isiD, tupleD, listD, seqOf, noX, iterD, isSh, rst]
theorem r7 (q : Nat) (ha : allDig d = true) (hq : q < 64) (hle : q ≤ d.length) : exec (prog tb k) (.ife (.cmp .Gt (.v 3) (.lit (.int 0))) [(.set 4 (.pr .intOf [(.sl (.v 1) none (some (.v 3)))]))] []) (rst S x d s2 (.sh (.int q)) (.sh (.int 0)) s5) = .next (rst S x d s2 (.sh (.int q)) (.sh (.int (digVal (d.take q) : Nat))) s5) := by
  have ct := cut_to d q
  have hd2 : allDig (d.take q) = true := by
    have := dig_drop ha 0 q
    simpa using this
  by_cases h0 : 0 < q
  · have h3 : d.take q ≠ [] := by
      intro z
      have := congrArg List.length z
      rw [List.length_take, List.length_nil] at this
      omega
    have h4 : (d.take q).length ≤ 640 := by rw [List.length_take]; omega
    have h0' : (0 : Int) < (q : Int) := by omega
    generalize d.take q = y at *
    simp [exec, execs, ev, evs, evo, evrs, evt, evtb, evts, evit, evb, rdArg, rdPlace, readV, Place.get, Place.set, Arg.get, getAll, Res.bind, Res.then, RS.seq, lift, prim, prim1, prim2, binD, cmpD, ixD, slD, lenP, lenD, intD, negD, bindTo, assign, assigns, fin, derefS, gc, fit_str, fit_int, D.eqv, truthD, Cell.view, isList, mutC, mrecv, mprim, mprim2, mprim3, augD, toCell, Option.bind, fromF, isiP, isiD, tupleD, listD, seqOf, noX, iterD, isSh, rst, h0, h0', ct, hd2, h3, h4]
  · have hz : q = 0 := by omega
    subst hz
    simp [exec, execs, ev, evs, evo, evrs, evt, evtb, evts, evit, evb, rdArg, rdPlace, readV, Place.get, Place.set, Arg.get, getAll, Res.bind, Res.then, RS.seq, lift, prim, prim1, prim2, binD, cmpD, ixD, slD, lenP, lenD, intD, negD, bindTo, assign, assigns, fin, derefS, gc, fit_str, fit_int, D.eqv, truthD, Cell.view, isList, mutC, mrecv, mprim, mprim2, mprim3, augD, toCell, Option.bind, fromF, isiP, isiD, tupleD, listD, seqOf, noX, iterD, isSh, rst, digVal]
theorem rng64 {q m l : Nat} (hq : q < 64) (hle : q + 64 * m = l) (hl : l ≤ 9700) : rangeD [.int q, .int l, .int 64] = some (rangeS q 64 m) := by
  have e : stepsN q l 64 = m := by
    unfold stepsN
    split <;> omega
  have h : -RLIM ≤ (q : Int) ∧ (q : Int) < RLIM ∧ -RLIM ≤ (l : Int) ∧ (l : Int) < RLIM ∧ (0 : Int) < 64 ∧ (64 : Int) < 1073741824 := by
    have : (9700 : Int) < RLIM := by decide
    omega
  simp only [rangeD]
  rw [if_pos h, e]
theorem r8 (q m n : Nat) (hq : q < 64) (hle : q + 64 * m = d.length) (hl : d.length ≤ 9700) : exec (prog tb k) (.fr (.v 5) (.rng [(.v 3), (.pr .len [(.v 1)]), (.lit (.int 64))]) [(.set 4 (.pr (.bin .Add) [(.pr (.bin .Mult) [(.v 4), (.g 0)]), (.pr .intOf [(.sl (.v 1) (some (.v 5)) (some (.pr (.bin .Add) [(.v 5), (.lit (.int 64))])))])]))]) (rst S x d s2 (.sh (.int q)) (.sh (.int n)) s5) = forL (nbody k) (rangeS (q : Int) 64 m) (rst S x d s2 (.sh (.int q)) (.sh (.int n)) s5) := by
  have eR := rng64 hq hle hl
  have he : evs (prog tb k) [(.v 3), (.pr .len [(.v 1)]), (.lit (.int 64))] (rst S x d s2 (.sh (.int q)) (.sh (.int n)) s5) = .ok [.int q, .int d.length, .int 64] (rst S x d s2 (.sh (.int q)) (.sh (.int n)) s5) := by
    simp [exec, execs, ev, evs, evo, evrs, evt, evtb, evts, evit, evb, rdArg, rdPlace, readV, Place.get, Place.set, Arg.get, getAll, Res.bind, Res.then, RS.seq, lift, prim, prim1, prim2, binD, cmpD, ixD, slD, lenP, lenD, intD, negD, bindTo, assign, assigns, fin, derefS, gc, fit_str, fit_int, D.eqv, truthD, Cell.view, isList, mutC, mrecv, mprim, mprim2, mprim3, augD, toCell, Option.bind, fromF, isiP, isiD, tupleD, listD, seqOf, noX, iterD, isSh, rst]
  exact exec_fr (evit_rng he eR)
theorem r9 (n : Nat) (hx : x ≠ []) : execs (prog tb k) [(.ife (.cmp .Eq (.pr .ix [(.v 0), (.lit (.int 0))]) (.lit (.str [45]))) [(.ret (.pr .neg [(.v 4)]))] []), (.ret (.v 4))] (rst S x d s2 s3 (.sh (.int n)) s5) = .ret false (.int (if x.take 1 = [45] then -(n : Int) else n)) (rst S x d s2 s3 (.sh (.int n)) s5) := by
  obtain ⟨c, r, rfl⟩ := List.exists_cons_of_ne_nil hx
  by_cases hc : c = 45
  · subst hc
    simp [exec, execs, ev, evs, evo, evrs, evt, evtb, evts, evit, evb, rdArg, rdPlace, readV, Place.get, Place.set, Arg.get, getAll, Res.bind, Res.then, RS.seq, lift, prim, prim1, prim2, binD, cmpD, ixD, slD, lenP, lenD, intD, negD, bindTo, assign, assigns, fin, derefS, gc, fit_str, fit_int, D.eqv, truthD, Cell.view, isList, mutC, mrecv, mprim, mprim2, mprim3, augD, toCell, Option.bind, fromF, isiP, isiD, tupleD, listD, seqOf, noX, iterD, isSh, rst, atI_zero]
  · simp [exec, execs, ev, evs, evo, evrs, evt, evtb, evts, evit, evb, rdArg, rdPlace, readV, Place.get, Place.set, Arg.get, getAll, Res.bind, Res.then, RS.seq, lift, prim, prim1, prim2, binD, cmpD, ixD, slD, lenP, lenD, intD, negD, bindTo, assign, assigns, fin, derefS, gc, fit_str, fit_int, D.eqv, truthD, Cell.view, isList, mutC, mrecv, mprim, mprim2, mprim3, augD, toCell, Option.bind, fromF, isiP, isiD, tupleD, listD, seqOf, noX, iterD, isSh, rst, atI_zero, hc]
end
theorem read_int (k : Nat) (S : List Cell) (x : List Nat) (hl : x.length ≤ 9700) :
    Phi tb (k + 1) 1 [.str x] S = if okI x = true then .ok false (.int (vi x)) S else .exn (.mk 1 []) S := by
  rw [phi_succ (fn := f1) rfl rfl (by decide)]
  show fin S.length (execs (prog tb k) f1.body ⟨[.sh (.str x), .no, .no, .no, .no, .no], S⟩) = _
  unfold f1
  simp only
  have st3 := r3 k S x
  rw [seq_next (r1 k S x), seq_next (r2 k S x)]
  by_cases hb : badHead x = true
  · rw [if_pos hb] at st3
    rw [seq_exn st3]
    unfold okI
    rw [hb]
    simp [fin, gc, rst]
  · rw [if_neg hb] at st3
    rw [seq_next st3]
    have hne : dg x ≠ [] := fun z => hb (by unfold badHead; simp [z])
    have hlen : (dg x).length ≤ 9700 := by
      unfold dg
      split
      · simp; omega
      · exact hl
    obtain ⟨i1, i2⟩ := cloop k S x (dg x) .no .no .no (dg x) .no
    by_cases ha : allDig (dg x) = true
    · obtain ⟨s2', e4⟩ := i1 ha
      rw [seq_next ((r4 k S x (dg x) _ _ _ _).trans e4)]
      have ok : okI x = true := by unfold okI; rw [Bool.not_eq_true] at hb; rw [hb, ha]; rfl
      rw [if_pos ok]
      have hlt : (dg x).length % 64 < 64 := Nat.mod_lt _ (by decide)
      have hdv : (dg x).length % 64 + 64 * ((dg x).length / 64) = (dg x).length := Nat.mod_add_div _ _
      obtain ⟨s5', e8⟩ := nloop k S x (dg x) s2' (.sh (.int ((dg x).length % 64 : Nat))) ha hlen _ _ .no hdv
      rw [seq_next (r5 ..), seq_next (r6 ..), seq_next (r7 k S x (dg x) s2' .no _ ha hlt (Nat.mod_le _ _)), seq_next ((r8 k S x (dg x) s2' .no _ _ _ hlt hdv hlen).trans e8)]
      have hx : x ≠ [] := by
        intro z
        subst z
        exact hne rfl
      rw [r9 k S x _ _ _ _ _ hx]
      unfold vi
      simp [fin, gc, rst]
    · rw [Bool.not_eq_true] at ha
      obtain ⟨s2', e4⟩ := i2 ha
      rw [seq_exn ((r4 k S x (dg x) _ _ _ _).trans e4)]
      unfold okI
      rw [ha]
      simp [fin, gc, rst]
end K57

set_option Elab.async false
set_option linter.all false
set_option maxRecDepth 100000
set_option maxHeartbeats 4000000
set_option autoImplicit false
set_option exponentiation.threshold 50000
/-! k57, the plain law: data written. -/
namespace K57
open Z
inductive Dt where
  | int (z : Int) | txt (x : List Nat) | tup (l : List Dt)
mutual
def toD : Dt → D
  | .int z => .int z
  | .txt x => .str x
  | .tup l => .tup (toDs l)
def toDs : List Dt → List D
  | [] => []
  | d :: r => toD d :: toDs r
end
mutual
def wr : Dt → List Nat
  | .int z => wi z
  | .txt x => 39 :: (x ++ [39])
  | .tup l => 40 :: (joinL [44, 32] (wrs l) ++ [41])
def wrs : List Dt → List (List Nat)
  | [] => []
  | d :: r => wr d :: wrs r
end
mutual
def hi : Dt → Nat
  | .int _ => 0
  | .txt _ => 0
  | .tup l => his l + 1
def his : List Dt → Nat
  | [] => 0
  | d :: r => max (hi d) (his r)
end
mutual
def good : Dt → Prop
  | .int z => z.natAbs < 10 ^ 9600
  | .txt _ => True
  | .tup l => goods l
def goods : List Dt → Prop
  | [] => True
  | d :: r => good d ∧ goods r
end
theorem toDs_len : ∀ l : List Dt, (toDs l).length = l.length
  | [] => rfl
  | d :: r => by simp only [toDs, List.length_cons, toDs_len r]
theorem wrs_len : ∀ l : List Dt, (wrs l).length = l.length
  | [] => rfl
  | d :: r => by simp only [wrs, List.length_cons, wrs_len r]
theorem joinLen_eq2 (sep : List Nat) : ∀ xs : List (List Nat), xs ≠ [] → joinLen sep xs = (joinL sep xs).length + sep.length
  | [], h => absurd rfl h
  | [x], _ => by simp [joinLen, joinL]
  | x :: y :: r, _ => by
    have ih := joinLen_eq2 sep (y :: r) (by simp)
    have e : joinLen sep (x :: y :: r) = x.length + sep.length + joinLen sep (y :: r) := by simp [joinLen]
    have e2 : joinL sep (x :: y :: r) = x ++ sep ++ joinL sep (y :: r) := rfl
    rw [e, e2, ih]
    simp
    omega
theorem mem_joinLen {sep x : List Nat} : ∀ {xs : List (List Nat)}, x ∈ xs → x.length + sep.length ≤ joinLen sep xs
  | y :: r, h => by
    have e : joinLen sep (y :: r) = y.length + sep.length + joinLen sep r := by simp [joinLen]
    rw [e]
    rcases List.mem_cons.mp h with h | h
    · subst h; omega
    · have := mem_joinLen (sep := sep) h; omega
theorem joinLen_le (sep : List Nat) (xs : List (List Nat)) : joinLen sep xs ≤ (joinL sep xs).length + sep.length := by
  cases xs with
  | nil => simp [joinLen]
  | cons x r => rw [joinLen_eq2 sep (x :: r) (by simp)]; exact Nat.le_refl _
theorem len_le_join (sep : List Nat) (h : 1 ≤ sep.length) : ∀ xs : List (List Nat), xs.length ≤ joinLen sep xs
  | [] => by simp
  | x :: r => by
    have e : joinLen sep (x :: r) = x.length + sep.length + joinLen sep r := by simp [joinLen]
    have := len_le_join sep h r
    rw [e, List.length_cons]; omega
noncomputable abbrev wturn (k : Nat) : D → Sta → Res (Option D) := cturn (prog tb k) (.v 1) [1] [] (.call 2 [(.v 1)])
theorem wturn_ok (k : Nat) (S : List Cell) (a : Slot) (d : D) (x : List Nat) (h : Phi tb k 2 [d] S = .ok false (.str x) S) : wturn k d ⟨[a, .no], S⟩ = .ok (some (.str x)) ⟨[a, .no], S⟩ := by
  have e : (prog tb k).call 2 [d] S = .ok false (.str x) S := h
  simp [exec, execs, ev, evs, evo, evrs, evt, evtb, evts, evit, evb, rdArg, rdPlace, readV, Place.get, Place.set, Arg.get, getAll, Res.bind, Res.then, RS.seq, lift, prim, prim1, prim2, binD, cmpD, ixD, slD, lenP, lenD, intD, negD, bindTo, assign, assigns, fin, derefS, gc, fit_str, fit_int, D.eqv, truthD, Cell.view, isList, mutC, mrecv, mprim, mprim2, mprim3, augD, toCell, Option.bind, fromF, isiP, isiD, tupleD, listD, seqOf, noX, iterD, isSh, wturn, cturn, e, wipeZ]
theorem wcomp (k : Nat) (S : List Cell) (a : Slot) : ∀ (l : List Dt) (acc : List D), (∀ d ∈ l, Phi tb k 2 [toD d] S = .ok false (.str (wr d)) S) → acc.length + l.length ≤ LIM →
    compL (wturn k) (toDs l) acc ⟨[a, .no], S⟩ = .ok (acc ++ (wrs l).map .str) ⟨[a, .no], S⟩
  | [], acc, _, _ => by simp [compL, toDs, wrs]
  | d :: r, acc, h, hl => by
    simp only [List.length_cons] at hl
    simp only [toDs, compL, wturn_ok k S a (toD d) (wr d) (h d List.mem_cons_self), Res.bind]
    rw [if_pos (by omega), wcomp k S a r (acc ++ [D.str (wr d)]) (fun x hx => h x (List.mem_cons_of_mem _ hx)) (by simp; omega)]
    simp [wrs]
theorem goods_mem : ∀ {l : List Dt} {d : Dt}, d ∈ l → goods l → good d ∧ hi d ≤ his l ∧ wr d ∈ wrs l
  | x :: r, d, h, g => by
    simp only [goods] at g
    simp only [his, wrs]
    rcases List.mem_cons.mp h with h | h
    · subst h
      exact ⟨g.1, by omega, List.mem_cons_self⟩
    · obtain ⟨a, b, c⟩ := goods_mem h g.2
      exact ⟨a, by omega, List.mem_cons_of_mem _ c⟩
theorem write_data (S : List Cell) : ∀ (h k : Nat) (d : Dt), hi d ≤ h → good d → (wr d).length ≤ LIM → Phi tb (k + h + 3) 2 [toD d] S = .ok false (.str (wr d)) S
  | h, k, .int z, _, g, hl => by
    simp only [good] at g
    rw [phi_succ (fn := f2) rfl rfl (by decide)]
    have e := write_int (k + h) S z g
    have e : (prog tb (k + h + 2)).call 0 [.int z] S = .ok false (.str (wi z)) S := e
    simp [exec, execs, ev, evs, evo, evrs, evt, evtb, evts, evit, evb, rdArg, rdPlace, readV, Place.get, Place.set, Arg.get, getAll, Res.bind, Res.then, RS.seq, lift, prim, prim1, prim2, binD, cmpD, ixD, slD, lenP, lenD, intD, negD, bindTo, assign, assigns, fin, derefS, gc, fit_str, fit_int, D.eqv, truthD, Cell.view, isList, mutC, mrecv, mprim, mprim2, mprim3, augD, toCell, Option.bind, fromF, isiP, isiD, tupleD, listD, seqOf, noX, iterD, isSh, f2, toD, wr, e]
  | h, k, .txt x, _, g, hl => by
    rw [phi_succ (fn := f2) rfl rfl (by decide)]
    simp only [wr, List.length_cons, List.length_append, List.length_nil] at hl
    have h1 : 1 + x.length ≤ LIM := by omega
    have h2 : x.length + 1 + 1 ≤ LIM := by omega
    simp [exec, execs, ev, evs, evo, evrs, evt, evtb, evts, evit, evb, rdArg, rdPlace, readV, Place.get, Place.set, Arg.get, getAll, Res.bind, Res.then, RS.seq, lift, prim, prim1, prim2, binD, cmpD, ixD, slD, lenP, lenD, intD, negD, bindTo, assign, assigns, fin, derefS, gc, fit_str, fit_int, D.eqv, truthD, Cell.view, isList, mutC, mrecv, mprim, mprim2, mprim3, augD, toCell, Option.bind, fromF, isiP, isiD, tupleD, listD, seqOf, noX, iterD, isSh, f2, toD, wr, h1, h2]
  | 0, k, .tup l, hh, g, hl => by simp [hi] at hh
  | h + 1, k, .tup l, hh, g, hl => by
    simp only [hi] at hh
    simp only [good] at g
    rw [phi_succ (fn := f2) rfl rfl (by decide)]
    have hjl := joinLen_le [44, 32] (wrs l)
    have hl' : (joinL [44, 32] (wrs l)).length + 2 ≤ LIM := by
      simp only [wr, List.length_cons, List.length_append, List.length_nil] at hl
      omega
    have hj : joinLen [44, 32] (wrs l) ≤ LIM := Nat.le_trans hjl hl'
    have hc := wcomp (k + h + 3) S (.sh (.tup (toDs l))) l [] (fun d hd => by
      obtain ⟨g1, g2, g3⟩ := goods_mem hd g
      refine write_data S h k d (by omega) g1 ?_
      have := mem_joinLen (sep := [44, 32]) g3
      omega) (by
        have := len_le_join [44, 32] (by decide) (wrs l)
        rw [wrs_len] at this
        simp only [List.length_nil]
        omega)
    have hcomp : ev (prog tb (k + (h + 1) + 2)) (.comp (.v 1) [1] (.seq (.v 0)) [] (.call 2 [(.v 1)])) ⟨[.sh (.tup (toDs l)), .no], S⟩ = .ok (true, .lst ((wrs l).map .str)) ⟨[.sh (.tup (toDs l)), .no], S⟩ := by
      have := ev_comp (P := prog tb (k + (h + 1) + 2)) (tg := .v 1) (vs := [1]) (it := .seq (.v 0)) (ifs := []) (e := .call 2 [(.v 1)]) (s := ⟨[.sh (.tup (toDs l)), .no], S⟩) (s1 := ⟨[.sh (.tup (toDs l)), .no], S⟩) (ds := toDs l) (by simp [exec, execs, ev, evs, evo, evrs, evt, evtb, evts, evit, evb, rdArg, rdPlace, readV, Place.get, Place.set, Arg.get, getAll, Res.bind, Res.then, RS.seq, lift, prim, prim1, prim2, binD, cmpD, ixD, slD, lenP, lenD, intD, negD, bindTo, assign, assigns, fin, derefS, gc, fit_str, fit_int, D.eqv, truthD, Cell.view, isList, mutC, mrecv, mprim, mprim2, mprim3, augD, toCell, Option.bind, fromF, isiP, isiD, tupleD, listD, seqOf, noX, iterD, isSh]) (by simp [isSh]) hc
      exact this
    have es := strsOf_str (wrs l)
    have h3 : 1 + (joinL [44, 32] (wrs l)).length ≤ LIM := by omega
    have h4 : (joinL [44, 32] (wrs l)).length + 1 + 1 ≤ LIM := by omega
    have hj2 := ev_mp1 (P := prog tb (k + (h + 1) + 2)) (m := .join) (o := .lit (.str [44, 32])) (r := (false, .str (joinL [44, 32] (wrs l)))) (x := .val (.str [44, 32])) (d := .str [44, 32]) (d' := .str [44, 32]) (s := ⟨[.sh (.tup (toDs l)), .no], S⟩) (by simp [exec, execs, ev, evs, evo, evrs, evt, evtb, evts, evit, evb, rdArg, rdPlace, readV, Place.get, Place.set, Arg.get, getAll, Res.bind, Res.then, RS.seq, lift, prim, prim1, prim2, binD, cmpD, ixD, slD, lenP, lenD, intD, negD, bindTo, assign, assigns, fin, derefS, gc, fit_str, fit_int, D.eqv, truthD, Cell.view, isList, mutC, mrecv, mprim, mprim2, mprim3, augD, toCell, Option.bind, fromF, isiP, isiD, tupleD, listD, seqOf, noX, iterD, isSh]) rfl rfl (rd_of hcomp) rfl rfl (by simp [mprim2, joinD, seqOf, es, hj])
    have hb1 := ev_pr2 (P := prog tb (k + (h + 1) + 2)) (p := .bin .Add) (a := .lit (.str [40])) (x := .val (.str [40])) (d := .str [40]) (r := (false, .str (40 :: joinL [44, 32] (wrs l)))) (s := ⟨[.sh (.tup (toDs l)), .no], S⟩) (by simp [exec, execs, ev, evs, evo, evrs, evt, evtb, evts, evit, evb, rdArg, rdPlace, readV, Place.get, Place.set, Arg.get, getAll, Res.bind, Res.then, RS.seq, lift, prim, prim1, prim2, binD, cmpD, ixD, slD, lenP, lenD, intD, negD, bindTo, assign, assigns, fin, derefS, gc, fit_str, fit_int, D.eqv, truthD, Cell.view, isList, mutC, mrecv, mprim, mprim2, mprim3, augD, toCell, Option.bind, fromF, isiP, isiD, tupleD, listD, seqOf, noX, iterD, isSh]) (rd_of hj2) rfl rfl (by simp [prim2, binD, h3])
    have hb2 := ev_pr2 (P := prog tb (k + (h + 1) + 2)) (p := .bin .Add) (b := .lit (.str [41])) (y := .val (.str [41])) (e := .str [41]) (r := (false, .str (40 :: (joinL [44, 32] (wrs l) ++ [41])))) (s := ⟨[.sh (.tup (toDs l)), .no], S⟩) (s2 := ⟨[.sh (.tup (toDs l)), .no], S⟩) (rd_of hb1) (by simp [exec, execs, ev, evs, evo, evrs, evt, evtb, evts, evit, evb, rdArg, rdPlace, readV, Place.get, Place.set, Arg.get, getAll, Res.bind, Res.then, RS.seq, lift, prim, prim1, prim2, binD, cmpD, ixD, slD, lenP, lenD, intD, negD, bindTo, assign, assigns, fin, derefS, gc, fit_str, fit_int, D.eqv, truthD, Cell.view, isList, mutC, mrecv, mprim, mprim2, mprim3, augD, toCell, Option.bind, fromF, isiP, isiD, tupleD, listD, seqOf, noX, iterD, isSh]) rfl rfl (by simp [prim2, binD, h4])
    have st1 : exec (prog tb (k + (h + 1) + 2)) (.ret (.pr (.bin .Add) [(.pr (.bin .Add) [(.lit (.str [40])), (.mp .join (.lit (.str [44, 32])) [(.comp (.v 1) [1] (.seq (.v 0)) [] (.call 2 [(.v 1)]))])]), (.lit (.str [41]))])) ⟨[.sh (.tup (toDs l)), .no], S⟩ = .ret false (.str (40 :: (joinL [44, 32] (wrs l) ++ [41]))) ⟨[.sh (.tup (toDs l)), .no], S⟩ := exec_ret hb2
    have st : exec (prog tb (k + (h + 1) + 2)) (.ife (.e (.pr (.isi .tuple) [(.v 0)])) [(.ret (.pr (.bin .Add) [(.pr (.bin .Add) [(.lit (.str [40])), (.mp .join (.lit (.str [44, 32])) [(.comp (.v 1) [1] (.seq (.v 0)) [] (.call 2 [(.v 1)]))])]), (.lit (.str [41]))]))] []) ⟨[.sh (.tup (toDs l)), .no], S⟩ = .ret false (.str (40 :: (joinL [44, 32] (wrs l) ++ [41]))) ⟨[.sh (.tup (toDs l)), .no], S⟩ :=
      exec_if_true (by simp [exec, execs, ev, evs, evo, evrs, evt, evtb, evts, evit, evb, rdArg, rdPlace, readV, Place.get, Place.set, Arg.get, getAll, Res.bind, Res.then, RS.seq, lift, prim, prim1, prim2, binD, cmpD, ixD, slD, lenP, lenD, intD, negD, bindTo, assign, assigns, fin, derefS, gc, fit_str, fit_int, D.eqv, truthD, Cell.view, isList, mutC, mrecv, mprim, mprim2, mprim3, augD, toCell, Option.bind, fromF, isiP, isiD, tupleD, listD, seqOf, noX, iterD, isSh]) (seq_ret st1)
    show fin S.length (execs (prog tb (k + (h + 1) + 2)) f2.body ⟨[.sh (.tup (toDs l)), .no], S⟩) = _
    unfold f2
    simp only
    rw [seq_ret st]
    simp [fin, gc, wr]
end K57

set_option Elab.async false
set_option linter.all false
set_option maxRecDepth 100000
set_option maxHeartbeats 4000000
set_option autoImplicit false
/-! k57, the plain law: plain texts, integers and texts read within a text. -/
namespace K57
open Z
def plc (c : Nat) : Bool := decide (32 ≤ c) && decide (c ≤ 126) && !decide (c = 39) && !decide (c = 37)
def pl (x : List Nat) : Bool := x.all plc
noncomputable abbrev pbody (k : Nat) : D → Sta → RS := fbody (prog tb k) (.v 1) [(.ife (.bop false [(.cmp .Lt (.v 1) (.lit (.str [32]))), (.cmp .Gt (.v 1) (.lit (.str [126]))), (.cmp .Eq (.v 1) (.lit (.str [39]))), (.cmp .Eq (.pr .ordOf [(.v 1)]) (.lit (.int 37)))]) [(.ret (.lit (.bl false)))] [])]
theorem lt1 (a b : Nat) : ltL [a] [b] = decide (a < b) := by
  unfold ltL
  split
  · rename_i h; subst h; simp [ltL]
  · rfl
theorem pbody_ok (k : Nat) (S : List Cell) (a s : Slot) (c : Nat) : pbody k (.str [c]) ⟨[a, s], S⟩ = if plc c = true then .next ⟨[a, .sh (.str [c])], S⟩ else .ret false (.bl false) ⟨[a, .sh (.str [c])], S⟩ := by
  unfold plc
  by_cases h1 : c < 32
  · have : ¬ 32 ≤ c := by omega
    simp [exec, execs, ev, evs, evo, evrs, evt, evtb, evts, evit, evb, rdArg, rdPlace, readV, Place.get, Place.set, Arg.get, getAll, Res.bind, Res.then, RS.seq, lift, prim, prim1, prim2, binD, cmpD, ixD, slD, lenP, lenD, intD, negD, bindTo, assign, assigns, fin, derefS, gc, fit_str, fit_int, D.eqv, truthD, Cell.view, isList, mutC, mrecv, mprim, mprim2, mprim3, augD, toCell, Option.bind, fromF, isiP, isiD, tupleD, listD, seqOf, noX, iterD, isSh, pbody, fbody, lt1, h1, this]
  · have h1' : 32 ≤ c := by omega
    by_cases h2 : 126 < c
    · have : ¬ c ≤ 126 := by omega
      simp [exec, execs, ev, evs, evo, evrs, evt, evtb, evts, evit, evb, rdArg, rdPlace, readV, Place.get, Place.set, Arg.get, getAll, Res.bind, Res.then, RS.seq, lift, prim, prim1, prim2, binD, cmpD, ixD, slD, lenP, lenD, intD, negD, bindTo, assign, assigns, fin, derefS, gc, fit_str, fit_int, D.eqv, truthD, Cell.view, isList, mutC, mrecv, mprim, mprim2, mprim3, augD, toCell, Option.bind, fromF, isiP, isiD, tupleD, listD, seqOf, noX, iterD, isSh, pbody, fbody, lt1, h1, h1', h2, this]
    · have h2' : c ≤ 126 := by omega
      by_cases h3 : c = 39
      · simp [exec, execs, ev, evs, evo, evrs, evt, evtb, evts, evit, evb, rdArg, rdPlace, readV, Place.get, Place.set, Arg.get, getAll, Res.bind, Res.then, RS.seq, lift, prim, prim1, prim2, binD, cmpD, ixD, slD, lenP, lenD, intD, negD, bindTo, assign, assigns, fin, derefS, gc, fit_str, fit_int, D.eqv, truthD, Cell.view, isList, mutC, mrecv, mprim, mprim2, mprim3, augD, toCell, Option.bind, fromF, isiP, isiD, tupleD, listD, seqOf, noX, iterD, isSh, pbody, fbody, lt1, h1, h1', h2, h2', h3]
      · by_cases h4 : c = 37
        · simp [exec, execs, ev, evs, evo, evrs, evt, evtb, evts, evit, evb, rdArg, rdPlace, readV, Place.get, Place.set, Arg.get, getAll, Res.bind, Res.then, RS.seq, lift, prim, prim1, prim2, binD, cmpD, ixD, slD, lenP, lenD, intD, negD, bindTo, assign, assigns, fin, derefS, gc, fit_str, fit_int, D.eqv, truthD, Cell.view, isList, mutC, mrecv, mprim, mprim2, mprim3, augD, toCell, Option.bind, fromF, isiP, isiD, tupleD, listD, seqOf, noX, iterD, isSh, pbody, fbody, lt1, h1, h1', h2, h2', h3, h4, ordD]
        · have h5 : ¬ (c : Int) = 37 := by omega
          simp [exec, execs, ev, evs, evo, evrs, evt, evtb, evts, evit, evb, rdArg, rdPlace, readV, Place.get, Place.set, Arg.get, getAll, Res.bind, Res.then, RS.seq, lift, prim, prim1, prim2, binD, cmpD, ixD, slD, lenP, lenD, intD, negD, bindTo, assign, assigns, fin, derefS, gc, fit_str, fit_int, D.eqv, truthD, Cell.view, isList, mutC, mrecv, mprim, mprim2, mprim3, augD, toCell, Option.bind, fromF, isiP, isiD, tupleD, listD, seqOf, noX, iterD, isSh, pbody, fbody, lt1, h1, h1', h2, h2', h3, h4, h5, ordD]
theorem ploop (k : Nat) (S : List Cell) (a : Slot) : ∀ (x : List Nat) (s : Slot), (pl x = true → ∃ s', forL (pbody k) (x.map fun c => .str [c]) ⟨[a, s], S⟩ = .next ⟨[a, s'], S⟩) ∧
    (pl x = false → ∃ s', forL (pbody k) (x.map fun c => .str [c]) ⟨[a, s], S⟩ = .ret false (.bl false) ⟨[a, s'], S⟩)
  | [], s => ⟨fun _ => ⟨s, rfl⟩, fun h => (by simp [pl] at h)⟩
  | c :: x, s => by
    have hc := pbody_ok k S a s c
    obtain ⟨i1, i2⟩ := ploop k S a x (.sh (.str [c]))
    have e : pl (c :: x) = (plc c && pl x) := rfl
    by_cases q : plc c = true
    · rw [if_pos q] at hc
      rw [e, q, Bool.true_and]
      refine ⟨fun h => ?_, fun h => ?_⟩
      · obtain ⟨s', e'⟩ := i1 h
        exact ⟨s', by simp only [List.map_cons, forL, hc]; exact e'⟩
      · obtain ⟨s', e'⟩ := i2 h
        exact ⟨s', by simp only [List.map_cons, forL, hc]; exact e'⟩
    · rw [if_neg q] at hc
      rw [Bool.not_eq_true] at q
      rw [e, q, Bool.false_and]
      exact ⟨fun h => (by cases h), fun _ => ⟨.sh (.str [c]), by simp only [List.map_cons, forL, hc]⟩⟩
theorem plain_text (k : Nat) (S : List Cell) (x : List Nat) : Phi tb (k + 1) 3 [.str x] S = .ok false (.bl (pl x)) S := by
  rw [phi_succ (fn := f3) rfl rfl (by decide)]
  show fin S.length (execs (prog tb k) f3.body ⟨[.sh (.str x), .no], S⟩) = _
  unfold f3
  simp only
  have e : exec (prog tb k) (.fr (.v 1) (.seq (.v 0)) [(.ife (.bop false [(.cmp .Lt (.v 1) (.lit (.str [32]))), (.cmp .Gt (.v 1) (.lit (.str [126]))), (.cmp .Eq (.v 1) (.lit (.str [39]))), (.cmp .Eq (.pr .ordOf [(.v 1)]) (.lit (.int 37)))]) [(.ret (.lit (.bl false)))] [])]) ⟨[.sh (.str x), .no], S⟩ = forL (pbody k) (x.map fun c => .str [c]) ⟨[.sh (.str x), .no], S⟩ :=
    exec_fr (by simp [exec, execs, ev, evs, evo, evrs, evt, evtb, evts, evit, evb, rdArg, rdPlace, readV, Place.get, Place.set, Arg.get, getAll, Res.bind, Res.then, RS.seq, lift, prim, prim1, prim2, binD, cmpD, ixD, slD, lenP, lenD, intD, negD, bindTo, assign, assigns, fin, derefS, gc, fit_str, fit_int, D.eqv, truthD, Cell.view, isList, mutC, mrecv, mprim, mprim2, mprim3, augD, toCell, Option.bind, fromF, isiP, isiD, tupleD, listD, seqOf, noX, iterD, isSh])
  obtain ⟨i1, i2⟩ := ploop k S (.sh (.str x)) x .no
  cases h : pl x with
  | true =>
    obtain ⟨s', e'⟩ := i1 h
    rw [seq_next (e.trans e')]
    simp [exec, execs, ev, evs, evo, evrs, evt, evtb, evts, evit, evb, rdArg, rdPlace, readV, Place.get, Place.set, Arg.get, getAll, Res.bind, Res.then, RS.seq, lift, prim, prim1, prim2, binD, cmpD, ixD, slD, lenP, lenD, intD, negD, bindTo, assign, assigns, fin, derefS, gc, fit_str, fit_int, D.eqv, truthD, Cell.view, isList, mutC, mrecv, mprim, mprim2, mprim3, augD, toCell, Option.bind, fromF, isiP, isiD, tupleD, listD, seqOf, noX, iterD, isSh]
  | false =>
    obtain ⟨s', e'⟩ := i2 h
    rw [seq_ret (e.trans e')]
    simp [exec, execs, ev, evs, evo, evrs, evt, evtb, evts, evit, evb, rdArg, rdPlace, readV, Place.get, Place.set, Arg.get, getAll, Res.bind, Res.then, RS.seq, lift, prim, prim1, prim2, binD, cmpD, ixD, slD, lenP, lenD, intD, negD, bindTo, assign, assigns, fin, derefS, gc, fit_str, fit_int, D.eqv, truthD, Cell.view, isList, mutC, mrecv, mprim, mprim2, mprim3, augD, toCell, Option.bind, fromF, isiP, isiD, tupleD, listD, seqOf, noX, iterD, isSh]
/-! ### read_plain -/
def isS (c : Nat) : Bool := decide (c = 45) || isD c
/-- runs of signs are short -/
def nl : Nat → List Nat → Bool
  | _, [] => true
  | m, c :: r => if isS c then (match m with | 0 => false | m + 1 => nl m r) else nl 9700 r
theorem nl_cons (m c : Nat) (r : List Nat) : nl m (c :: r) = if isS c = true then (match m with | 0 => false | m + 1 => nl m r) else nl 9700 r := rfl
theorem nl_mono : ∀ (x : List Nat) (m m' : Nat), m ≤ m' → nl m x = true → nl m' x = true
  | [], _, _, _, _ => rfl
  | c :: r, m, m', h, q => by
    unfold nl at q ⊢
    by_cases hs : isS c = true
    · rw [if_pos hs] at q ⊢
      match m, m', h, q with
      | m + 1, m' + 1, h, q => exact nl_mono r m m' (by omega) q
    · rw [if_neg hs] at q ⊢
      exact q
theorem nl_tail {c : Nat} {r : List Nat} (h : nl 9700 (c :: r) = true) : nl 9700 r = true := by
  unfold nl at h
  by_cases hs : isS c = true
  · rw [if_pos hs] at h
    exact nl_mono r 9699 9700 (by omega) h
  · rw [if_neg hs] at h
    exact h
theorem nl_drop : ∀ (n : Nat) {x : List Nat}, nl 9700 x = true → nl 9700 (x.drop n) = true
  | 0, x, h => h
  | n + 1, [], h => by simpa using h
  | n + 1, c :: r, h => nl_drop n (nl_tail h)
theorem nl_run : ∀ (x : List Nat) (m : Nat), nl m x = true → (x.takeWhile isS).length ≤ m
  | [], m, _ => by simp
  | c :: r, m, h => by
    unfold nl at h
    by_cases hs : isS c = true
    · rw [if_pos hs] at h
      match m, h with
      | m + 1, h =>
        rw [List.takeWhile_cons_of_pos hs]
        have := nl_run r m h
        simp; omega
    · rw [List.takeWhile_cons_of_neg hs]
      simp
theorem nl_app : ∀ (x : List Nat) (c : Nat) (y : List Nat) (m : Nat), isS c = false → nl m (x ++ c :: y) = (nl m x && nl 9700 y)
  | [], c, y, m, h => by
    rw [List.nil_append, nl_cons, h]
    simp [nl]
  | d :: x, c, y, m, h => by
    rw [List.cons_append, nl_cons, nl_cons]
    by_cases hs : isS d = true
    · rw [if_pos hs, if_pos hs]
      cases m with
      | zero => rfl
      | succ m => exact nl_app x c y m h
    · rw [if_neg hs, if_neg hs]
      exact nl_app x c y 9700 h
theorem nl_short : ∀ (x : List Nat) (m : Nat), x.length ≤ m → x.length ≤ 9700 → nl m x = true
  | [], _, _, _ => rfl
  | c :: r, m, h, h2 => by
    simp only [List.length_cons] at h h2
    unfold nl
    by_cases hs : isS c = true
    · rw [if_pos hs]
      match m, h with
      | m + 1, h => exact nl_short r m (by omega) (by omega)
    · rw [if_neg hs]
      exact nl_short r 9700 (by omega) (by omega)
/-- what stands at the head of u -/
def rp (u : List Nat) : Option (Dt × Nat) :=
  if u.head? = some 39 then match findN 39 u.tail with
    | some n => if pl (u.tail.take n) = true then some (.txt (u.tail.take n), n + 2) else none
    | none => none
  else if okI (u.takeWhile isS) = true then some (.int (vi (u.takeWhile isS)), (u.takeWhile isS).length) else none
theorem in_sig (c : Nat) : (decide (c ∈ [45, 48, 49, 50, 51, 52, 53, 54, 55, 56, 57])) = isS c := by
  unfold isS isD
  have : c ∈ [45, 48, 49, 50, 51, 52, 53, 54, 55, 56, 57] ↔ c = 45 ∨ (48 ≤ c ∧ c ≤ 57) := by
    simp only [List.mem_cons, List.not_mem_nil, or_false]
    omega
  simp only [this, Bool.decide_or]
def qst (S : List Cell) (x : List Nat) (i j : Nat) : Sta := ⟨[.sh (.str x), .sh (.int i), .sh (.int j)], S⟩
noncomputable abbrev qcond (k : Nat) : Sta → Res Bool := evt (prog tb k) (.bop true [(.cmp .Lt (.v 2) (.pr .len [(.v 0)])), (.cmp .In (.pr .ix [(.v 0), (.v 2)]) (.g 3))])
noncomputable abbrev qbody (k : Nat) : Sta → RS := execs (prog tb k) [(.aug 2 .Add (.lit (.int 1)))]
theorem qcond_ok (k : Nat) (S : List Cell) (x : List Nat) (i j : Nat) : qcond k (qst S x i j) = .ok (match x[j]? with | some c => isS c | none => false) (qst S x i j) := by
  cases h : x[j]? with
  | none =>
    have hl : x.length ≤ j := List.getElem?_eq_none_iff.mp h
    have h2 : ¬ (j : Int) < (x.length : Int) := by omega
    simp [exec, execs, ev, evs, evo, evrs, evt, evtb, evts, evit, evb, rdArg, rdPlace, readV, Place.get, Place.set, Arg.get, getAll, Res.bind, Res.then, RS.seq, lift, prim, prim1, prim2, binD, cmpD, ixD, slD, lenP, lenD, intD, negD, bindTo, assign, assigns, fin, derefS, gc, fit_str, fit_int, D.eqv, truthD, Cell.view, isList, mutC, mrecv, mprim, mprim2, mprim3, augD, toCell, Option.bind, fromF, isiP, isiD, tupleD, listD, seqOf, noX, iterD, isSh, qcond, qst, Nat.not_lt.mpr hl]
  | some c =>
    have hl : j < x.length := (List.getElem?_eq_some_iff.mp h).1
    have ha : atI x (j : Int) = some c := by rw [atI_nat]; exact h
    have hs := in_sig c
    cases q : isS c with
    | true =>
      rw [q] at hs
      have hs := of_decide_eq_true hs
      simp only [List.mem_cons, List.not_mem_nil, or_false] at hs
      simp [exec, execs, ev, evs, evo, evrs, evt, evtb, evts, evit, evb, rdArg, rdPlace, readV, Place.get, Place.set, Arg.get, getAll, Res.bind, Res.then, RS.seq, lift, prim, prim1, prim2, binD, cmpD, ixD, slD, lenP, lenD, intD, negD, bindTo, assign, assigns, fin, derefS, gc, fit_str, fit_int, D.eqv, truthD, Cell.view, isList, mutC, mrecv, mprim, mprim2, mprim3, augD, toCell, Option.bind, fromF, isiP, isiD, tupleD, listD, seqOf, noX, iterD, isSh, qcond, qst, hl, ha, inD, gls, tb, prog, hs, q]
    | false =>
      rw [q] at hs
      have hs := of_decide_eq_false hs
      simp only [List.mem_cons, List.not_mem_nil, or_false] at hs
      simp [exec, execs, ev, evs, evo, evrs, evt, evtb, evts, evit, evb, rdArg, rdPlace, readV, Place.get, Place.set, Arg.get, getAll, Res.bind, Res.then, RS.seq, lift, prim, prim1, prim2, binD, cmpD, ixD, slD, lenP, lenD, intD, negD, bindTo, assign, assigns, fin, derefS, gc, fit_str, fit_int, D.eqv, truthD, Cell.view, isList, mutC, mrecv, mprim, mprim2, mprim3, augD, toCell, Option.bind, fromF, isiP, isiD, tupleD, listD, seqOf, noX, iterD, isSh, qcond, qst, hl, ha, inD, gls, tb, prog, hs, q]
theorem qbody_ok (k : Nat) (S : List Cell) (x : List Nat) (i j : Nat) : qbody k (qst S x i j) = .next (qst S x i (j + 1)) := by
  simp [exec, execs, ev, evs, evo, evrs, evt, evtb, evts, evit, evb, rdArg, rdPlace, readV, Place.get, Place.set, Arg.get, getAll, Res.bind, Res.then, RS.seq, lift, prim, prim1, prim2, binD, cmpD, ixD, slD, lenP, lenD, intD, negD, bindTo, assign, assigns, fin, derefS, gc, fit_str, fit_int, D.eqv, truthD, Cell.view, isList, mutC, mrecv, mprim, mprim2, mprim3, augD, toCell, Option.bind, fromF, isiP, isiD, tupleD, listD, seqOf, noX, iterD, isSh, qbody, qst]
theorem qloop (k : Nat) (S : List Cell) (x : List Nat) (i : Nat) : ∀ (n j : Nat), ((x.drop j).takeWhile isS).length = n → whileL (qcond k) (qbody k) (qst S x i j) = .next (qst S x i (j + n))
  | 0, j, h => by
    refine while_end ?_
    rw [qcond_ok]
    cases q : x[j]? with
    | none => rfl
    | some c =>
      have hl : j < x.length := (List.getElem?_eq_some_iff.mp q).1
      rw [List.drop_eq_getElem_cons hl] at h
      have e : x[j] = c := by rw [List.getElem?_eq_getElem hl] at q; cases q; rfl
      rw [e] at h
      cases hs : isS c with
      | true => rw [List.takeWhile_cons_of_pos hs] at h; simp at h
      | false => simp [hs]
  | n + 1, j, h => by
    have hl : j < x.length := by
      by_cases hl : j < x.length
      · exact hl
      · rw [List.drop_of_length_le (by omega)] at h; simp at h
    have ih := qloop k S x i n (j + 1)
    rw [List.drop_eq_getElem_cons hl] at h
    have hs : isS x[j] = true := by
      cases hs : isS x[j] with
      | true => rfl
      | false => rw [List.takeWhile_cons_of_neg (by rw [hs]; decide)] at h; simp at h
    rw [List.takeWhile_cons_of_pos hs] at h
    have ih := ih (by simpa using h)
    rw [while_next (s1 := qst S x i j) (s2 := qst S x i (j + 1)) (by rw [qcond_ok, List.getElem?_eq_getElem hl]; simp [hs]) (.inl (qbody_ok ..)) (by rw [ih]; simp), ih]
    congr 2
    omega
theorem drop_succ {x : List Nat} {i c : Nat} {r : List Nat} (hu : x.drop i = c :: r) : x[i]? = some c ∧ x.drop (i + 1) = r ∧ i < x.length := by
  have hl : i < x.length := by
    by_cases hl : i < x.length
    · exact hl
    · rw [List.drop_of_length_le (by omega)] at hu; cases hu
  rw [List.drop_eq_getElem_cons hl] at hu
  cases hu
  exact ⟨List.getElem?_eq_getElem hl, rfl, hl⟩
theorem read_plain (k : Nat) (S : List Cell) (x : List Nat) (i c : Nat) (r : List Nat) (hu : x.drop i = c :: r) (hn : nl 9700 x = true) :
    Phi tb (k + 2) 4 [.str x, .int i] S = match rp (c :: r) with
      | some (d, n) => .ok false (.tup [toD d, .int (i + n : Nat)]) S
      | none => .exn (.mk 1 []) S := by
  rw [phi_succ (fn := f4) rfl rfl (by decide)]
  show fin S.length (execs (prog tb (k + 1)) f4.body ⟨[.sh (.str x), .sh (.int i), .no], S⟩) = _
  obtain ⟨hx, hr, hl⟩ := drop_succ hu
  have ha : atI x (i : Int) = some c := by rw [atI_nat]; exact hx
  obtain ⟨J, i1, j0, i2, j3⟩ : ∃ J : Int, ((i : Int) + 1) = J ∧ 0 ≤ J ∧ J.toNat = i + 1 ∧ ((i + 1 : Nat) : Int) = J := ⟨(i : Int) + 1, rfl, by omega, by omega, by omega⟩
  by_cases hc : c = 39
  · subst hc
    cases hf : findN 39 r with
    | none =>
      have e : rp (39 :: r) = none := by simp [rp, hf]
      rw [e]
      simp [exec, execs, ev, evs, evo, evrs, evt, evtb, evts, evit, evb, rdArg, rdPlace, readV, Place.get, Place.set, Arg.get, getAll, Res.bind, Res.then, RS.seq, lift, prim, prim1, prim2, binD, cmpD, ixD, slD, lenP, lenD, intD, negD, bindTo, assign, assigns, fin, derefS, gc, fit_str, fit_int, D.eqv, truthD, Cell.view, isList, mutC, mrecv, mprim, mprim2, mprim3, augD, toCell, Option.bind, fromF, isiP, isiD, tupleD, listD, seqOf, noX, iterD, isSh, f4, ha, find3D, i1, i2, j0, hr, hf]
    | some n =>
      have hp := plain_text k S (r.take n)
      have hp : (prog tb (k + 1)).call 3 [.str (r.take n)] S = .ok false (.bl (pl (r.take n))) S := hp
      have hcut : cut x (some J) (some ((i + 1 + n : Nat) : Int)) = r.take n := by
        rw [← j3, cut_mid, hr]; congr 1; omega
      have h0 : ¬ ((i + 1 + n : Nat) : Int) < 0 := by omega
      have e3 : ((i + 1 + n : Nat) : Int) + 1 = ((i + (n + 2) : Nat) : Int) := by omega
      have st1 : exec (prog tb (k + 1)) (.set 2 (.mp .find3 (.v 0) [(.lit (.str [39])), (.pr (.bin .Add) [(.v 1), (.lit (.int 1))])])) ⟨[.sh (.str x), .sh (.int i), .no], S⟩ = .next ⟨[.sh (.str x), .sh (.int i), .sh (.int (i + 1 + n : Nat))], S⟩ := by
        generalize hE : (((i + 1 + n : Nat)) : Int) = E at *
        have hE2 : J + (n : Int) = E := by omega
        simp [exec, execs, ev, evs, evo, evrs, evt, evtb, evts, evit, evb, rdArg, rdPlace, readV, Place.get, Place.set, Arg.get, getAll, Res.bind, Res.then, RS.seq, lift, prim, prim1, prim2, binD, cmpD, ixD, slD, lenP, lenD, intD, negD, bindTo, assign, assigns, fin, derefS, gc, fit_str, fit_int, D.eqv, truthD, Cell.view, isList, mutC, mrecv, mprim, mprim2, mprim3, augD, toCell, Option.bind, fromF, isiP, isiD, tupleD, listD, seqOf, noX, iterD, isSh, find3D, i1, i2, j0, hr, hf]
        omega
      cases hq : pl (r.take n) with
      | true =>
        have e : rp (39 :: r) = some (.txt (r.take n), n + 2) := by simp [rp, hf, hq]
        rw [e]
        rw [hq] at hp
        have st2 : exec (prog tb (k + 1)) (.ife (.bop false [(.cmp .Lt (.v 2) (.lit (.int 0))), (.not (.e (.call 3 [(.sl (.v 0) (some (.pr (.bin .Add) [(.v 1), (.lit (.int 1))])) (some (.v 2)))])))]) [(.rais 1 [])] []) ⟨[.sh (.str x), .sh (.int i), .sh (.int (i + 1 + n : Nat))], S⟩ = .next ⟨[.sh (.str x), .sh (.int i), .sh (.int (i + 1 + n : Nat))], S⟩ := by
          generalize hE : (((i + 1 + n : Nat)) : Int) = E at *
          simp [exec, execs, ev, evs, evo, evrs, evt, evtb, evts, evit, evb, rdArg, rdPlace, readV, Place.get, Place.set, Arg.get, getAll, Res.bind, Res.then, RS.seq, lift, prim, prim1, prim2, binD, cmpD, ixD, slD, lenP, lenD, intD, negD, bindTo, assign, assigns, fin, derefS, gc, fit_str, fit_int, D.eqv, truthD, Cell.view, isList, mutC, mrecv, mprim, mprim2, mprim3, augD, toCell, Option.bind, fromF, isiP, isiD, tupleD, listD, seqOf, noX, iterD, isSh, i1, hcut, hp, h0]
        have st3 : exec (prog tb (k + 1)) (.ret (.tup [(.sl (.v 0) (some (.pr (.bin .Add) [(.v 1), (.lit (.int 1))])) (some (.v 2))), (.pr (.bin .Add) [(.v 2), (.lit (.int 1))])])) ⟨[.sh (.str x), .sh (.int i), .sh (.int (i + 1 + n : Nat))], S⟩ = .ret false (.tup [.str (r.take n), .int (i + (n + 2) : Nat)]) ⟨[.sh (.str x), .sh (.int i), .sh (.int (i + 1 + n : Nat))], S⟩ := by
          generalize hE : (((i + 1 + n : Nat)) : Int) = E at *
          simp [exec, execs, ev, evs, evo, evrs, evt, evtb, evts, evit, evb, rdArg, rdPlace, readV, Place.get, Place.set, Arg.get, getAll, Res.bind, Res.then, RS.seq, lift, prim, prim1, prim2, binD, cmpD, ixD, slD, lenP, lenD, intD, negD, bindTo, assign, assigns, fin, derefS, gc, fit_str, fit_int, D.eqv, truthD, Cell.view, isList, mutC, mrecv, mprim, mprim2, mprim3, augD, toCell, Option.bind, fromF, isiP, isiD, tupleD, listD, seqOf, noX, iterD, isSh, i1, hcut, LIM, ← e3]
        have st : exec (prog tb (k + 1)) (.ife (.cmp .Eq (.pr .ix [(.v 0), (.v 1)]) (.lit (.str [39]))) [(.set 2 (.mp .find3 (.v 0) [(.lit (.str [39])), (.pr (.bin .Add) [(.v 1), (.lit (.int 1))])])), (.ife (.bop false [(.cmp .Lt (.v 2) (.lit (.int 0))), (.not (.e (.call 3 [(.sl (.v 0) (some (.pr (.bin .Add) [(.v 1), (.lit (.int 1))])) (some (.v 2)))])))]) [(.rais 1 [])] []), (.ret (.tup [(.sl (.v 0) (some (.pr (.bin .Add) [(.v 1), (.lit (.int 1))])) (some (.v 2))), (.pr (.bin .Add) [(.v 2), (.lit (.int 1))])]))] []) ⟨[.sh (.str x), .sh (.int i), .no], S⟩ = _ :=
          exec_if_true (s1 := ⟨[.sh (.str x), .sh (.int i), .no], S⟩) (by simp [exec, execs, ev, evs, evo, evrs, evt, evtb, evts, evit, evb, rdArg, rdPlace, readV, Place.get, Place.set, Arg.get, getAll, Res.bind, Res.then, RS.seq, lift, prim, prim1, prim2, binD, cmpD, ixD, slD, lenP, lenD, intD, negD, bindTo, assign, assigns, fin, derefS, gc, fit_str, fit_int, D.eqv, truthD, Cell.view, isList, mutC, mrecv, mprim, mprim2, mprim3, augD, toCell, Option.bind, fromF, isiP, isiD, tupleD, listD, seqOf, noX, iterD, isSh, ha]) ((seq_next st1).trans ((seq_next st2).trans (seq_ret st3)))
        unfold f4
        simp only
        rw [seq_ret st]
        simp [fin, gc, toD]
      | false =>
        have e : rp (39 :: r) = none := by simp [rp, hf, hq]
        rw [e]
        rw [hq] at hp
        have st2 : exec (prog tb (k + 1)) (.ife (.bop false [(.cmp .Lt (.v 2) (.lit (.int 0))), (.not (.e (.call 3 [(.sl (.v 0) (some (.pr (.bin .Add) [(.v 1), (.lit (.int 1))])) (some (.v 2)))])))]) [(.rais 1 [])] []) ⟨[.sh (.str x), .sh (.int i), .sh (.int (i + 1 + n : Nat))], S⟩ = .exn (.mk 1 []) ⟨[.sh (.str x), .sh (.int i), .sh (.int (i + 1 + n : Nat))], S⟩ := by
          generalize hE : (((i + 1 + n : Nat)) : Int) = E at *
          simp [exec, execs, ev, evs, evo, evrs, evt, evtb, evts, evit, evb, rdArg, rdPlace, readV, Place.get, Place.set, Arg.get, getAll, Res.bind, Res.then, RS.seq, lift, prim, prim1, prim2, binD, cmpD, ixD, slD, lenP, lenD, intD, negD, bindTo, assign, assigns, fin, derefS, gc, fit_str, fit_int, D.eqv, truthD, Cell.view, isList, mutC, mrecv, mprim, mprim2, mprim3, augD, toCell, Option.bind, fromF, isiP, isiD, tupleD, listD, seqOf, noX, iterD, isSh, i1, hcut, hp, h0]
        have st : exec (prog tb (k + 1)) (.ife (.cmp .Eq (.pr .ix [(.v 0), (.v 1)]) (.lit (.str [39]))) [(.set 2 (.mp .find3 (.v 0) [(.lit (.str [39])), (.pr (.bin .Add) [(.v 1), (.lit (.int 1))])])), (.ife (.bop false [(.cmp .Lt (.v 2) (.lit (.int 0))), (.not (.e (.call 3 [(.sl (.v 0) (some (.pr (.bin .Add) [(.v 1), (.lit (.int 1))])) (some (.v 2)))])))]) [(.rais 1 [])] []), (.ret (.tup [(.sl (.v 0) (some (.pr (.bin .Add) [(.v 1), (.lit (.int 1))])) (some (.v 2))), (.pr (.bin .Add) [(.v 2), (.lit (.int 1))])]))] []) ⟨[.sh (.str x), .sh (.int i), .no], S⟩ = _ :=
          exec_if_true (s1 := ⟨[.sh (.str x), .sh (.int i), .no], S⟩) (by simp [exec, execs, ev, evs, evo, evrs, evt, evtb, evts, evit, evb, rdArg, rdPlace, readV, Place.get, Place.set, Arg.get, getAll, Res.bind, Res.then, RS.seq, lift, prim, prim1, prim2, binD, cmpD, ixD, slD, lenP, lenD, intD, negD, bindTo, assign, assigns, fin, derefS, gc, fit_str, fit_int, D.eqv, truthD, Cell.view, isList, mutC, mrecv, mprim, mprim2, mprim3, augD, toCell, Option.bind, fromF, isiP, isiD, tupleD, listD, seqOf, noX, iterD, isSh, ha]) ((seq_next st1).trans (seq_exn st2))
        unfold f4
        simp only
        rw [seq_exn st]
        simp [fin, gc]
  · have hw : ((x.drop i).takeWhile isS).length ≤ 9700 := nl_run _ _ (nl_drop i hn)
    have hq := qloop (k + 1) S x i _ i rfl
    have ew : (c :: r).takeWhile isS = (x.drop i).takeWhile isS := by rw [hu]
    have hcut : cut x (some (i : Int)) (some ((i + ((x.drop i).takeWhile isS).length : Nat) : Int)) = (x.drop i).takeWhile isS := by
      rw [cut_mid]
      have : i + ((x.drop i).takeWhile isS).length - i = ((x.drop i).takeWhile isS).length := by omega
      rw [this]
      exact (List.prefix_iff_eq_take.mp (List.takeWhile_prefix isS)).symm
    have hi := read_int k S _ hw
    have er : rp (c :: r) = if okI ((x.drop i).takeWhile isS) = true then some (.int (vi ((x.drop i).takeWhile isS)), ((x.drop i).takeWhile isS).length) else none := by
      rw [← ew]
      simp [rp, hc]
    rw [er]
    generalize hW : (x.drop i).takeWhile isS = w at *
    have hi : (prog tb (k + 1)).call 1 [.str w] S = if okI w = true then .ok false (.int (vi w)) S else .exn (.mk 1 []) S := hi
    have st1 : exec (prog tb (k + 1)) (.ife (.cmp .Eq (.pr .ix [(.v 0), (.v 1)]) (.lit (.str [39]))) [(.set 2 (.mp .find3 (.v 0) [(.lit (.str [39])), (.pr (.bin .Add) [(.v 1), (.lit (.int 1))])])), (.ife (.bop false [(.cmp .Lt (.v 2) (.lit (.int 0))), (.not (.e (.call 3 [(.sl (.v 0) (some (.pr (.bin .Add) [(.v 1), (.lit (.int 1))])) (some (.v 2)))])))]) [(.rais 1 [])] []), (.ret (.tup [(.sl (.v 0) (some (.pr (.bin .Add) [(.v 1), (.lit (.int 1))])) (some (.v 2))), (.pr (.bin .Add) [(.v 2), (.lit (.int 1))])]))] []) ⟨[.sh (.str x), .sh (.int i), .no], S⟩ = .next ⟨[.sh (.str x), .sh (.int i), .no], S⟩ :=
      exec_if_false (s1 := ⟨[.sh (.str x), .sh (.int i), .no], S⟩) (by simp [exec, execs, ev, evs, evo, evrs, evt, evtb, evts, evit, evb, rdArg, rdPlace, readV, Place.get, Place.set, Arg.get, getAll, Res.bind, Res.then, RS.seq, lift, prim, prim1, prim2, binD, cmpD, ixD, slD, lenP, lenD, intD, negD, bindTo, assign, assigns, fin, derefS, gc, fit_str, fit_int, D.eqv, truthD, Cell.view, isList, mutC, mrecv, mprim, mprim2, mprim3, augD, toCell, Option.bind, fromF, isiP, isiD, tupleD, listD, seqOf, noX, iterD, isSh, ha, hc]) execs_nil
    have st2 : exec (prog tb (k + 1)) (.set 2 (.v 1)) ⟨[.sh (.str x), .sh (.int i), .no], S⟩ = .next (qst S x i i) := by
      simp [exec, execs, ev, evs, evo, evrs, evt, evtb, evts, evit, evb, rdArg, rdPlace, readV, Place.get, Place.set, Arg.get, getAll, Res.bind, Res.then, RS.seq, lift, prim, prim1, prim2, binD, cmpD, ixD, slD, lenP, lenD, intD, negD, bindTo, assign, assigns, fin, derefS, gc, fit_str, fit_int, D.eqv, truthD, Cell.view, isList, mutC, mrecv, mprim, mprim2, mprim3, augD, toCell, Option.bind, fromF, isiP, isiD, tupleD, listD, seqOf, noX, iterD, isSh, qst]
    have st3 : exec (prog tb (k + 1)) (.whl (.bop true [(.cmp .Lt (.v 2) (.pr .len [(.v 0)])), (.cmp .In (.pr .ix [(.v 0), (.v 2)]) (.g 3))]) [(.aug 2 .Add (.lit (.int 1)))]) (qst S x i i) = .next (qst S x i (i + w.length)) := by
      rw [exec_whl]; exact hq
    unfold f4
    simp only
    rw [seq_next st1, seq_next st2, seq_next st3]
    generalize hE : (((i + w.length : Nat)) : Int) = E at *
    by_cases ho : okI w = true
    · rw [if_pos ho] at hi ⊢
      simp [exec, execs, ev, evs, evo, evrs, evt, evtb, evts, evit, evb, rdArg, rdPlace, readV, Place.get, Place.set, Arg.get, getAll, Res.bind, Res.then, RS.seq, lift, prim, prim1, prim2, binD, cmpD, ixD, slD, lenP, lenD, intD, negD, bindTo, assign, assigns, fin, derefS, gc, fit_str, fit_int, D.eqv, truthD, Cell.view, isList, mutC, mrecv, mprim, mprim2, mprim3, augD, toCell, Option.bind, fromF, isiP, isiD, tupleD, listD, seqOf, noX, iterD, isSh, qst, hE, hcut, hi, LIM, toD]
    · rw [if_neg ho] at hi ⊢
      simp [exec, execs, ev, evs, evo, evrs, evt, evtb, evts, evit, evb, rdArg, rdPlace, readV, Place.get, Place.set, Arg.get, getAll, Res.bind, Res.then, RS.seq, lift, prim, prim1, prim2, binD, cmpD, ixD, slD, lenP, lenD, intD, negD, bindTo, assign, assigns, fin, derefS, gc, fit_str, fit_int, D.eqv, truthD, Cell.view, isList, mutC, mrecv, mprim, mprim2, mprim3, augD, toCell, Option.bind, fromF, isiP, isiD, tupleD, listD, seqOf, noX, iterD, isSh, qst, hE, hcut, hi, LIM, toD]
end K57

set_option Elab.async false
set_option linter.all false
set_option maxRecDepth 100000
set_option maxHeartbeats 4000000
set_option autoImplicit false
/-! k57, the plain law: data read. -/
namespace K57
open Z
/-- the machine: po: the sign ahead is an open bracket; top and what lies below it (the nearest first); fr: an item may stand here -/
def mrun : Nat → Bool → List Dt → List (List Dt) → Bool → List Nat → Option (List Dt × List (List Dt))
  | _, _, top, bel, _, [] => some (top, bel)
  | 0, _, _, _, _, _ :: _ => none
  | n + 1, po, top, bel, fr, c :: r =>
    if fr && decide (c = 40) && decide (bel.length + 1 ≤ 20) then mrun n true [] (top :: bel) true r
    else if decide (c = 41) && decide (bel.length + 1 > 1) && (!fr || po) then (match bel with
      | nx :: rest => mrun n false (nx ++ [.tup top]) rest false r
      | [] => none)
    else if !fr && decide (bel.length + 1 > 1) && decide ((c :: r).take 2 = [44, 32]) then mrun n false top bel true (r.drop 1)
    else if fr && !decide (c = 40) then (match rp (c :: r) with
      | some (d, m) => mrun n false (top ++ [d]) bel false ((c :: r).drop m)
      | none => none)
    else none
def dst0 (S : List Cell) (x : List Nat) (q : List D) (i : Nat) (fr : Bool) (s4 s5 : Slot) : Sta := ⟨[.sh (.str x), .own (.L q), .sh (.int i), .sh (.bl fr), s4, s5], S⟩
def dst (S : List Cell) (x : List Nat) (is : List Nat) (i : Nat) (fr : Bool) (s4 s5 : Slot) : Sta := dst0 S x (is.map .ref).reverse i fr s4 s5
/-- the cells of the stack, the top first -/
def SR (S : List Cell) : List Nat → List (List Dt) → Prop
  | [], [] => True
  | a :: is, t :: st => S[a]? = some (.L (toDs t)) ∧ a ∉ is ∧ SR S is st
  | _, _ => False
theorem SR.len {S : List Cell} : ∀ {is : List Nat} {st : List (List Dt)}, SR S is st → is.length = st.length
  | [], [], _ => rfl
  | a :: is, t :: st, h => by simp only [List.length_cons, SR.len h.2.2]
  | [], _ :: _, h => h.elim
  | _ :: _, [], h => h.elim
theorem SR.push {S : List Cell} {c : Cell} : ∀ {is : List Nat} {st : List (List Dt)}, SR S is st → SR (S ++ [c]) is st
  | [], [], _ => trivial
  | a :: is, t :: st, h => ⟨by rw [List.getElem?_append_left (List.getElem?_eq_some_iff.mp h.1).1]; exact h.1, h.2.1, h.2.2.push⟩
  | [], _ :: _, h => h.elim
  | _ :: _, [], h => h.elim
theorem SR.lt {S : List Cell} : ∀ {is : List Nat} {st : List (List Dt)}, SR S is st → ∀ a ∈ is, a < S.length
  | [], [], _, _, h => by simp at h
  | a :: is, t :: st, h, b, hb => by
    rcases List.mem_cons.mp hb with e | e
    · subst e; exact (List.getElem?_eq_some_iff.mp h.1).1
    · exact h.2.2.lt b e
  | [], _ :: _, h, _, _ => h.elim
  | _ :: _, [], h, _, _ => h.elim
theorem SR.set {S : List Cell} {a : Nat} {c : Cell} : ∀ {is : List Nat} {st : List (List Dt)}, SR S is st → a ∉ is → SR (S.set a c) is st
  | [], [], _, _ => trivial
  | b :: is, t :: st, h, ha => by
    simp only [List.mem_cons, not_or] at ha
    exact ⟨by rw [List.getElem?_set_ne ha.1]; exact h.1, h.2.1, h.2.2.set ha.2⟩
  | [], _ :: _, h, _ => h.elim
  | _ :: _, [], h, _ => h.elim
theorem toDs_snoc (l : List Dt) (d : Dt) : toDs (l ++ [d]) = toDs l ++ [toD d] := by
  induction l with
  | nil => rfl
  | cons x l ih => simp only [List.cons_append, toDs, ih]
abbrev t1 : T := .bop true [(.e (.v 3)), (.cmp .Eq (.pr .ix [(.v 0), (.v 2)]) (.lit (.str [40]))), (.cmp .LtE (.pr .len [(.v 1)]) (.g 2))]
abbrev t2 : T := .bop true [(.cmp .Eq (.pr .ix [(.v 0), (.v 2)]) (.lit (.str [41]))), (.cmp .Gt (.pr .len [(.v 1)]) (.lit (.int 1))), (.bop false [(.not (.e (.v 3))), (.cmp .Eq (.pr .ix [(.v 0), (.pr (.bin .Sub) [(.v 2), (.lit (.int 1))])]) (.lit (.str [40])))])]
abbrev t3 : T := .bop true [(.not (.e (.v 3))), (.cmp .Gt (.pr .len [(.v 1)]) (.lit (.int 1))), (.cmp .Eq (.sl (.v 0) (some (.v 2)) (some (.pr (.bin .Add) [(.v 2), (.lit (.int 2))]))) (.lit (.str [44, 32])))]
abbrev t4 : T := .bop true [(.e (.v 3)), (.cmp .NotEq (.pr .ix [(.v 0), (.v 2)]) (.lit (.str [40])))]
abbrev b1 : List Z.S := [(.exp (.mu .append (.v 1) [(.cell (.lst []))])), (.aug 2 .Add (.lit (.int 1)))]
abbrev b2 : List Z.S := [(.set 4 (.pr .tupleOf [(.mu .pop (.v 1) [])])), (.exp (.mu .append (.pr .ix [(.v 1), (.pr .neg [(.lit (.int 1))])]) [(.v 4)])), (.aug 2 .Add (.lit (.int 1))), (.set 3 (.lit (.bl false)))]
abbrev b3 : List Z.S := [(.aug 2 .Add (.lit (.int 2))), (.set 3 (.lit (.bl true)))]
abbrev b4 : List Z.S := [(.setT (.tup [(.v 5), (.v 2)]) (.call 4 [(.v 0), (.v 2)])), (.exp (.mu .append (.pr .ix [(.v 1), (.pr .neg [(.lit (.int 1))])]) [(.v 5)])), (.set 3 (.lit (.bl false)))]
abbrev dB : List Z.S := [(.ife t1 b1 [(.ife t2 b2 [(.ife t3 b3 [(.ife t4 b4 [(.rais 1 [])])])])])]
section
variable (k : Nat) (S : List Cell) (x : List Nat) (is : List Nat) (i c : Nat) (fr : Bool) (s4 s5 : Slot)
theorem t1_ok (ha : atI x (i : Int) = some c) : evt (prog tb k) t1 (dst S x is i fr s4 s5) = .ok (fr && decide (c = 40) && decide (is.length ≤ 20)) (dst S x is i fr s4 s5) := by
  have h20 : ((is.length : Int) ≤ 20) ↔ is.length ≤ 20 := by omega
  cases fr with
  | false => simp [exec, execs, ev, evs, evo, evrs, evt, evtb, evts, evit, evb, rdArg, rdPlace, readV, Place.get, Place.set, Arg.get, getAll, Res.bind, Res.then, RS.seq, lift, prim, prim1, prim2, binD, cmpD, ixD, slD, lenP, lenD, intD, negD, bindTo, assign, assigns, fin, derefS, gc, fit_str, fit_int, D.eqv, truthD, Cell.view, isList, mutC, mrecv, mprim, mprim2, mprim3, augD, toCell, Option.bind, fromF, isiP, isiD, tupleD, listD, seqOf, noX, iterD, isSh, dst, dst0]
  | true =>
    by_cases hc : c = 40
    · simp [exec, execs, ev, evs, evo, evrs, evt, evtb, evts, evit, evb, rdArg, rdPlace, readV, Place.get, Place.set, Arg.get, getAll, Res.bind, Res.then, RS.seq, lift, prim, prim1, prim2, binD, cmpD, ixD, slD, lenP, lenD, intD, negD, bindTo, assign, assigns, fin, derefS, gc, fit_str, fit_int, D.eqv, truthD, Cell.view, isList, mutC, mrecv, mprim, mprim2, mprim3, augD, toCell, Option.bind, fromF, isiP, isiD, tupleD, listD, seqOf, noX, iterD, isSh, dst, dst0, ha, hc, tb, prog, gls, h20]
    · simp [exec, execs, ev, evs, evo, evrs, evt, evtb, evts, evit, evb, rdArg, rdPlace, readV, Place.get, Place.set, Arg.get, getAll, Res.bind, Res.then, RS.seq, lift, prim, prim1, prim2, binD, cmpD, ixD, slD, lenP, lenD, intD, negD, bindTo, assign, assigns, fin, derefS, gc, fit_str, fit_int, D.eqv, truthD, Cell.view, isList, mutC, mrecv, mprim, mprim2, mprim3, augD, toCell, Option.bind, fromF, isiP, isiD, tupleD, listD, seqOf, noX, iterD, isSh, dst, dst0, ha, hc, tb, prog, gls]
theorem t2_ok (po : Bool) (ha : atI x (i : Int) = some c) (hp : fr = true → 1 < is.length → ∃ p, atI x ((i : Int) - 1) = some p ∧ po = decide (p = 40)) : evt (prog tb k) t2 (dst S x is i fr s4 s5) = .ok (decide (c = 41) && decide (is.length > 1) && (!fr || po)) (dst S x is i fr s4 s5) := by
  have h1 : ((1 : Int) < (is.length : Int)) ↔ 1 < is.length := by omega
  by_cases hc : c = 41
  · by_cases hl : 1 < is.length
    · cases fr with
      | false => simp [exec, execs, ev, evs, evo, evrs, evt, evtb, evts, evit, evb, rdArg, rdPlace, readV, Place.get, Place.set, Arg.get, getAll, Res.bind, Res.then, RS.seq, lift, prim, prim1, prim2, binD, cmpD, ixD, slD, lenP, lenD, intD, negD, bindTo, assign, assigns, fin, derefS, gc, fit_str, fit_int, D.eqv, truthD, Cell.view, isList, mutC, mrecv, mprim, mprim2, mprim3, augD, toCell, Option.bind, fromF, isiP, isiD, tupleD, listD, seqOf, noX, iterD, isSh, dst, dst0, ha, hc, h1, hl]
      | true =>
        obtain ⟨p, hp1, hp2⟩ := hp rfl hl
        have hI : (i : Int) - 1 = (i : Int) + -1 := by omega
        simp [exec, execs, ev, evs, evo, evrs, evt, evtb, evts, evit, evb, rdArg, rdPlace, readV, Place.get, Place.set, Arg.get, getAll, Res.bind, Res.then, RS.seq, lift, prim, prim1, prim2, binD, cmpD, ixD, slD, lenP, lenD, intD, negD, bindTo, assign, assigns, fin, derefS, gc, fit_str, fit_int, D.eqv, truthD, Cell.view, isList, mutC, mrecv, mprim, mprim2, mprim3, augD, toCell, Option.bind, fromF, isiP, isiD, tupleD, listD, seqOf, noX, iterD, isSh, dst, dst0, ha, hc, h1, hl, hp1, hp2]
        by_cases hq : p = 40 <;> simp [hq]
    · simp [exec, execs, ev, evs, evo, evrs, evt, evtb, evts, evit, evb, rdArg, rdPlace, readV, Place.get, Place.set, Arg.get, getAll, Res.bind, Res.then, RS.seq, lift, prim, prim1, prim2, binD, cmpD, ixD, slD, lenP, lenD, intD, negD, bindTo, assign, assigns, fin, derefS, gc, fit_str, fit_int, D.eqv, truthD, Cell.view, isList, mutC, mrecv, mprim, mprim2, mprim3, augD, toCell, Option.bind, fromF, isiP, isiD, tupleD, listD, seqOf, noX, iterD, isSh, dst, dst0, ha, hc, h1, hl]
  · simp [exec, execs, ev, evs, evo, evrs, evt, evtb, evts, evit, evb, rdArg, rdPlace, readV, Place.get, Place.set, Arg.get, getAll, Res.bind, Res.then, RS.seq, lift, prim, prim1, prim2, binD, cmpD, ixD, slD, lenP, lenD, intD, negD, bindTo, assign, assigns, fin, derefS, gc, fit_str, fit_int, D.eqv, truthD, Cell.view, isList, mutC, mrecv, mprim, mprim2, mprim3, augD, toCell, Option.bind, fromF, isiP, isiD, tupleD, listD, seqOf, noX, iterD, isSh, dst, dst0, ha, hc]
theorem t3_ok (u : List Nat) (hu : x.drop i = u) : evt (prog tb k) t3 (dst S x is i fr s4 s5) = .ok (!fr && decide (is.length > 1) && decide (u.take 2 = [44, 32])) (dst S x is i fr s4 s5) := by
  have h1 : ((1 : Int) < (is.length : Int)) ↔ 1 < is.length := by omega
  obtain ⟨J, hJ, hc⟩ : ∃ J : Int, (i : Int) + 2 = J ∧ cut x (some (i : Int)) (some J) = u.take 2 := ⟨((i + 2 : Nat) : Int), by omega, by rw [cut_mid, hu]; congr 1; omega⟩
  cases fr with
  | true => simp [exec, execs, ev, evs, evo, evrs, evt, evtb, evts, evit, evb, rdArg, rdPlace, readV, Place.get, Place.set, Arg.get, getAll, Res.bind, Res.then, RS.seq, lift, prim, prim1, prim2, binD, cmpD, ixD, slD, lenP, lenD, intD, negD, bindTo, assign, assigns, fin, derefS, gc, fit_str, fit_int, D.eqv, truthD, Cell.view, isList, mutC, mrecv, mprim, mprim2, mprim3, augD, toCell, Option.bind, fromF, isiP, isiD, tupleD, listD, seqOf, noX, iterD, isSh, dst, dst0]
  | false =>
    by_cases hl : 1 < is.length
    · by_cases hq : u.take 2 = [44, 32]
      · simp [exec, execs, ev, evs, evo, evrs, evt, evtb, evts, evit, evb, rdArg, rdPlace, readV, Place.get, Place.set, Arg.get, getAll, Res.bind, Res.then, RS.seq, lift, prim, prim1, prim2, binD, cmpD, ixD, slD, lenP, lenD, intD, negD, bindTo, assign, assigns, fin, derefS, gc, fit_str, fit_int, D.eqv, truthD, Cell.view, isList, mutC, mrecv, mprim, mprim2, mprim3, augD, toCell, Option.bind, fromF, isiP, isiD, tupleD, listD, seqOf, noX, iterD, isSh, dst, dst0, h1, hl, hJ, hc, hq]
      · simp [exec, execs, ev, evs, evo, evrs, evt, evtb, evts, evit, evb, rdArg, rdPlace, readV, Place.get, Place.set, Arg.get, getAll, Res.bind, Res.then, RS.seq, lift, prim, prim1, prim2, binD, cmpD, ixD, slD, lenP, lenD, intD, negD, bindTo, assign, assigns, fin, derefS, gc, fit_str, fit_int, D.eqv, truthD, Cell.view, isList, mutC, mrecv, mprim, mprim2, mprim3, augD, toCell, Option.bind, fromF, isiP, isiD, tupleD, listD, seqOf, noX, iterD, isSh, dst, dst0, h1, hl, hJ, hc, hq]
    · simp [exec, execs, ev, evs, evo, evrs, evt, evtb, evts, evit, evb, rdArg, rdPlace, readV, Place.get, Place.set, Arg.get, getAll, Res.bind, Res.then, RS.seq, lift, prim, prim1, prim2, binD, cmpD, ixD, slD, lenP, lenD, intD, negD, bindTo, assign, assigns, fin, derefS, gc, fit_str, fit_int, D.eqv, truthD, Cell.view, isList, mutC, mrecv, mprim, mprim2, mprim3, augD, toCell, Option.bind, fromF, isiP, isiD, tupleD, listD, seqOf, noX, iterD, isSh, dst, dst0, h1, hl]
theorem t4_ok (ha : atI x (i : Int) = some c) : evt (prog tb k) t4 (dst S x is i fr s4 s5) = .ok (fr && !decide (c = 40)) (dst S x is i fr s4 s5) := by
  cases fr with
  | false => simp [exec, execs, ev, evs, evo, evrs, evt, evtb, evts, evit, evb, rdArg, rdPlace, readV, Place.get, Place.set, Arg.get, getAll, Res.bind, Res.then, RS.seq, lift, prim, prim1, prim2, binD, cmpD, ixD, slD, lenP, lenD, intD, negD, bindTo, assign, assigns, fin, derefS, gc, fit_str, fit_int, D.eqv, truthD, Cell.view, isList, mutC, mrecv, mprim, mprim2, mprim3, augD, toCell, Option.bind, fromF, isiP, isiD, tupleD, listD, seqOf, noX, iterD, isSh, dst, dst0]
  | true =>
    by_cases hc : c = 40
    · simp [exec, execs, ev, evs, evo, evrs, evt, evtb, evts, evit, evb, rdArg, rdPlace, readV, Place.get, Place.set, Arg.get, getAll, Res.bind, Res.then, RS.seq, lift, prim, prim1, prim2, binD, cmpD, ixD, slD, lenP, lenD, intD, negD, bindTo, assign, assigns, fin, derefS, gc, fit_str, fit_int, D.eqv, truthD, Cell.view, isList, mutC, mrecv, mprim, mprim2, mprim3, augD, toCell, Option.bind, fromF, isiP, isiD, tupleD, listD, seqOf, noX, iterD, isSh, dst, dst0, ha, hc]
    · simp [exec, execs, ev, evs, evo, evrs, evt, evtb, evts, evit, evb, rdArg, rdPlace, readV, Place.get, Place.set, Arg.get, getAll, Res.bind, Res.then, RS.seq, lift, prim, prim1, prim2, binD, cmpD, ixD, slD, lenP, lenD, intD, negD, bindTo, assign, assigns, fin, derefS, gc, fit_str, fit_int, D.eqv, truthD, Cell.view, isList, mutC, mrecv, mprim, mprim2, mprim3, augD, toCell, Option.bind, fromF, isiP, isiD, tupleD, listD, seqOf, noX, iterD, isSh, dst, dst0, ha, hc]
theorem b1_ok (hl : is.length < 1000) : execs (prog tb k) b1 (dst S x is i fr s4 s5) = .next (dst (S ++ [.L []]) x (S.length :: is) (i + 1) fr s4 s5) := by
  have h : is.length < LIM := Nat.lt_trans hl (by decide)
  simp [exec, execs, ev, evs, evo, evrs, evt, evtb, evts, evit, evb, rdArg, rdPlace, readV, Place.get, Place.set, Arg.get, getAll, Res.bind, Res.then, RS.seq, lift, prim, prim1, prim2, binD, cmpD, ixD, slD, lenP, lenD, intD, negD, bindTo, assign, assigns, fin, derefS, gc, fit_str, fit_int, D.eqv, truthD, Cell.view, isList, mutC, mrecv, mprim, mprim2, mprim3, augD, toCell, Option.bind, fromF, isiP, isiD, tupleD, listD, seqOf, noX, iterD, isSh, dst, dst0, appendC, h]
theorem last_rev (a : Nat) (r : List Nat) : ((a :: r).map D.ref).reverse.getLast? = some (.ref a) ∧ ((a :: r).map D.ref).reverse.dropLast = (r.map D.ref).reverse := by
  simp
theorem ix_last (a : Nat) (r : List Nat) : atI ((a :: r).map D.ref).reverse (-1) = some (.ref a) := by
  unfold atI ixN
  rw [if_neg (by omega), if_pos (by simp; omega)]
  simp
  have : ((-1 : Int) + ((r.length : Int) + 1)).toNat = r.length := by omega
  rw [this]
  simp
theorem b2_ok (a b : Nat) (t u : List Dt) (ha : S[a]? = some (.L (toDs t))) (hb : S[b]? = some (.L (toDs u))) (hl : u.length < 16000000) : execs (prog tb k) b2 (dst S x (a :: b :: is) i fr s4 s5) = .next (dst (S.set b (.L (toDs (u ++ [.tup t])))) x (b :: is) (i + 1) false (.sh (.tup (toDs t))) s5) := by
  have hL : (toDs u).length < LIM := by rw [toDs_len]; exact Nat.lt_trans hl (by decide)
  obtain ⟨g1, g2⟩ := last_rev a (b :: is)
  have g3 := ix_last b is
  have st1 : exec (prog tb k) (.set 4 (.pr .tupleOf [(.mu .pop (.v 1) [])])) (dst S x (a :: b :: is) i fr s4 s5) = .next (dst S x (b :: is) i fr (.sh (.tup (toDs t))) s5) := by
    unfold dst
    generalize hq : ((a :: b :: is).map D.ref).reverse = q at *
    generalize hq2 : ((b :: is).map D.ref).reverse = q2 at *
    simp [exec, execs, ev, evs, evo, evrs, evt, evtb, evts, evit, evb, rdArg, rdPlace, readV, Place.get, Place.set, Arg.get, getAll, Res.bind, Res.then, RS.seq, lift, prim, prim1, prim2, binD, cmpD, ixD, slD, lenP, lenD, intD, negD, bindTo, assign, assigns, fin, derefS, gc, fit_str, fit_int, D.eqv, truthD, Cell.view, isList, mutC, mrecv, mprim, mprim2, mprim3, augD, toCell, Option.bind, fromF, isiP, isiD, tupleD, listD, seqOf, noX, iterD, isSh, dst0, popC, g1, g2, ha]
  have st2 : exec (prog tb k) (.exp (.mu .append (.pr .ix [(.v 1), (.pr .neg [(.lit (.int 1))])]) [(.v 4)])) (dst S x (b :: is) i fr (.sh (.tup (toDs t))) s5) = .next (dst (S.set b (.L (toDs (u ++ [.tup t])))) x (b :: is) i fr (.sh (.tup (toDs t))) s5) := by
    rw [toDs_snoc]
    unfold dst
    generalize hq2 : ((b :: is).map D.ref).reverse = q2 at *
    simp [exec, execs, ev, evs, evo, evrs, evt, evtb, evts, evit, evb, rdArg, rdPlace, readV, Place.get, Place.set, Arg.get, getAll, Res.bind, Res.then, RS.seq, lift, prim, prim1, prim2, binD, cmpD, ixD, slD, lenP, lenD, intD, negD, bindTo, assign, assigns, fin, derefS, gc, fit_str, fit_int, D.eqv, truthD, Cell.view, isList, mutC, mrecv, mprim, mprim2, mprim3, augD, toCell, Option.bind, fromF, isiP, isiD, tupleD, listD, seqOf, noX, iterD, isSh, dst0, g3, hb, appendC, hL, toD]
  rw [seq_next st1, seq_next st2]
  simp [exec, execs, ev, evs, evo, evrs, evt, evtb, evts, evit, evb, rdArg, rdPlace, readV, Place.get, Place.set, Arg.get, getAll, Res.bind, Res.then, RS.seq, lift, prim, prim1, prim2, binD, cmpD, ixD, slD, lenP, lenD, intD, negD, bindTo, assign, assigns, fin, derefS, gc, fit_str, fit_int, D.eqv, truthD, Cell.view, isList, mutC, mrecv, mprim, mprim2, mprim3, augD, toCell, Option.bind, fromF, isiP, isiD, tupleD, listD, seqOf, noX, iterD, isSh, dst, dst0]
theorem b3_ok : execs (prog tb k) b3 (dst S x is i fr s4 s5) = .next (dst S x is (i + 2) true s4 s5) := by
  simp [exec, execs, ev, evs, evo, evrs, evt, evtb, evts, evit, evb, rdArg, rdPlace, readV, Place.get, Place.set, Arg.get, getAll, Res.bind, Res.then, RS.seq, lift, prim, prim1, prim2, binD, cmpD, ixD, slD, lenP, lenD, intD, negD, bindTo, assign, assigns, fin, derefS, gc, fit_str, fit_int, D.eqv, truthD, Cell.view, isList, mutC, mrecv, mprim, mprim2, mprim3, augD, toCell, Option.bind, fromF, isiP, isiD, tupleD, listD, seqOf, noX, iterD, isSh, dst, dst0]
theorem b4_ok (a m : Nat) (t : List Dt) (d : Dt) (ha : S[a]? = some (.L (toDs t))) (hl : t.length < 16000000) (hc : (prog tb k).call 4 [.str x, .int i] S = .ok false (.tup [toD d, .int (i + m : Nat)]) S) : execs (prog tb k) b4 (dst S x (a :: is) i fr s4 s5) = .next (dst (S.set a (.L (toDs (t ++ [d])))) x (a :: is) (i + m) false s4 (.sh (toD d))) := by
  have hL : (toDs t).length < LIM := by rw [toDs_len]; exact Nat.lt_trans hl (by decide)
  have g3 := ix_last a is
  have st1 : exec (prog tb k) (.setT (.tup [(.v 5), (.v 2)]) (.call 4 [(.v 0), (.v 2)])) (dst S x (a :: is) i fr s4 s5) = .next (dst S x (a :: is) (i + m) fr s4 (.sh (toD d))) := by
    unfold dst dst0
    generalize hE : ((i + m : Nat) : Int) = E at *
    simp [exec, execs, ev, evs, evo, evrs, evt, evtb, evts, evit, evb, rdArg, rdPlace, readV, Place.get, Place.set, Arg.get, getAll, Res.bind, Res.then, RS.seq, lift, prim, prim1, prim2, binD, cmpD, ixD, slD, lenP, lenD, intD, negD, bindTo, assign, assigns, fin, derefS, gc, fit_str, fit_int, D.eqv, truthD, Cell.view, isList, mutC, mrecv, mprim, mprim2, mprim3, augD, toCell, Option.bind, fromF, isiP, isiD, tupleD, listD, seqOf, noX, iterD, isSh, hc]
  have st2 : exec (prog tb k) (.exp (.mu .append (.pr .ix [(.v 1), (.pr .neg [(.lit (.int 1))])]) [(.v 5)])) (dst S x (a :: is) (i + m) fr s4 (.sh (toD d))) = .next (dst (S.set a (.L (toDs (t ++ [d])))) x (a :: is) (i + m) fr s4 (.sh (toD d))) := by
    rw [toDs_snoc]
    unfold dst dst0
    generalize hq2 : ((a :: is).map D.ref).reverse = q2 at *
    generalize hE : ((i + m : Nat) : Int) = E at *
    simp [exec, execs, ev, evs, evo, evrs, evt, evtb, evts, evit, evb, rdArg, rdPlace, readV, Place.get, Place.set, Arg.get, getAll, Res.bind, Res.then, RS.seq, lift, prim, prim1, prim2, binD, cmpD, ixD, slD, lenP, lenD, intD, negD, bindTo, assign, assigns, fin, derefS, gc, fit_str, fit_int, D.eqv, truthD, Cell.view, isList, mutC, mrecv, mprim, mprim2, mprim3, augD, toCell, Option.bind, fromF, isiP, isiD, tupleD, listD, seqOf, noX, iterD, isSh, g3, ha, appendC, hL]
  rw [seq_next st1, seq_next st2]
  simp [exec, execs, ev, evs, evo, evrs, evt, evtb, evts, evit, evb, rdArg, rdPlace, readV, Place.get, Place.set, Arg.get, getAll, Res.bind, Res.then, RS.seq, lift, prim, prim1, prim2, binD, cmpD, ixD, slD, lenP, lenD, intD, negD, bindTo, assign, assigns, fin, derefS, gc, fit_str, fit_int, D.eqv, truthD, Cell.view, isList, mutC, mrecv, mprim, mprim2, mprim3, augD, toCell, Option.bind, fromF, isiP, isiD, tupleD, listD, seqOf, noX, iterD, isSh, dst, dst0]
theorem b4_exn (hc : (prog tb k).call 4 [.str x, .int i] S = .exn (.mk 1 []) S) : execs (prog tb k) b4 (dst S x is i fr s4 s5) = .exn (.mk 1 []) (dst S x is i fr s4 s5) := by
  simp [exec, execs, ev, evs, evo, evrs, evt, evtb, evts, evit, evb, rdArg, rdPlace, readV, Place.get, Place.set, Arg.get, getAll, Res.bind, Res.then, RS.seq, lift, prim, prim1, prim2, binD, cmpD, ixD, slD, lenP, lenD, intD, negD, bindTo, assign, assigns, fin, derefS, gc, fit_str, fit_int, D.eqv, truthD, Cell.view, isList, mutC, mrecv, mprim, mprim2, mprim3, augD, toCell, Option.bind, fromF, isiP, isiD, tupleD, listD, seqOf, noX, iterD, isSh, dst, dst0, hc]
end
end K57

set_option Elab.async false
set_option linter.all false
set_option maxRecDepth 100000
set_option maxHeartbeats 4000000
set_option autoImplicit false
/-! k57, the plain law: data read: the loop. -/
namespace K57
open Z
theorem findN_lt {c : Nat} : ∀ {x : List Nat} {n : Nat}, findN c x = some n → n < x.length
  | [], _, h => by simp [findN] at h
  | y :: r, n, h => by
    simp only [findN] at h
    split at h
    · cases h; simp
    · split at h
      · rename_i k hk
        cases h
        have := findN_lt hk
        simp; omega
      · cases h
theorem okI_ne {w : List Nat} (h : okI w = true) : w ≠ [] := by
  intro z
  subst z
  simp [okI, badHead, dg] at h
theorem rp_le {c : Nat} {r : List Nat} {d : Dt} {m : Nat} (h : rp (c :: r) = some (d, m)) : 1 ≤ m ∧ m ≤ (c :: r).length := by
  unfold rp at h
  split at h
  · split at h
    · rename_i n hn
      split at h
      · cases h
        have := findN_lt hn
        simp at this ⊢
        omega
      · cases h
    · cases h
  · split at h
    · rename_i ho
      cases h
      have h1 := okI_ne ho
      have h2 : ((c :: r).takeWhile isS).length ≤ (c :: r).length := (List.takeWhile_prefix isS).length_le
      have h3 : ((c :: r).takeWhile isS).length ≠ 0 := fun z => h1 (List.length_eq_zero_iff.mp z)
      omega
    · cases h
noncomputable abbrev dcond (k : Nat) : Sta → Res Bool := evt (prog tb k) (.cmp .Lt (.v 2) (.pr .len [(.v 0)]))
noncomputable abbrev dbody (k : Nat) : Sta → RS := execs (prog tb k) dB
theorem dcond_ok (k : Nat) (S : List Cell) (x : List Nat) (q : List D) (i : Nat) (fr : Bool) (s4 s5 : Slot) : dcond k (dst0 S x q i fr s4 s5) = .ok (decide (i < x.length)) (dst0 S x q i fr s4 s5) := by
  have h1 : ((i : Int) < (x.length : Int)) ↔ i < x.length := by omega
  simp [exec, execs, ev, evs, evo, evrs, evt, evtb, evts, evit, evb, rdArg, rdPlace, readV, Place.get, Place.set, Arg.get, getAll, Res.bind, Res.then, RS.seq, lift, prim, prim1, prim2, binD, cmpD, ixD, slD, lenP, lenD, intD, negD, bindTo, assign, assigns, fin, derefS, gc, fit_str, fit_int, D.eqv, truthD, Cell.view, isList, mutC, mrecv, mprim, mprim2, mprim3, augD, toCell, Option.bind, fromF, isiP, isiD, tupleD, listD, seqOf, noX, iterD, isSh, dst0, h1]
theorem one_stmt {P : Prog} {x : Z.S} {s : Sta} {r : RS} (h : exec P x s = r) : execs P [x] s = r := by
  cases r with
  | next s1 => rw [seq_next h, execs_nil]
  | _ => simp [execs, h, RS.seq]
/-- what is left of the cells -/
structure Lft (S0 S : List Cell) : Prop where
  tk : S.take S0.length = S0
  lt : S0.length < S.length
theorem Lft.push {S0 S : List Cell} {c : Cell} (h : Lft S0 S) : Lft S0 (S ++ [c]) := ⟨by rw [List.take_append_of_le_length (Nat.le_of_lt h.lt)]; exact h.tk, by have := h.lt; simp; omega⟩
theorem Lft.set {S0 S : List Cell} {a : Nat} {c : Cell} (h : Lft S0 S) (ha : S0.length ≤ a) : Lft S0 (S.set a c) := ⟨by rw [List.take_set_of_le ha]; exact h.tk, by rw [List.length_set]; exact h.lt⟩
theorem mrun_cons (n : Nat) (po : Bool) (top : List Dt) (bel : List (List Dt)) (fr : Bool) (c : Nat) (r : List Nat) : mrun (n + 1) po top bel fr (c :: r) = (if (fr && decide (c = 40) && decide (bel.length + 1 ≤ 20)) = true then mrun n true [] (top :: bel) true r
      else if (decide (c = 41) && decide (bel.length + 1 > 1) && (!fr || po)) = true then (match bel with
        | nx :: rest => mrun n false (nx ++ [.tup top]) rest false r
        | [] => none)
      else if (!fr && decide (bel.length + 1 > 1) && decide ((c :: r).take 2 = [44, 32])) = true then mrun n false top bel true (r.drop 1)
      else if (fr && !decide (c = 40)) = true then (match rp (c :: r) with
        | some (d, m) => mrun n false (top ++ [d]) bel false ((c :: r).drop m)
        | none => none)
      else none) := rfl
theorem dloop (k : Nat) (x : List Nat) (hn : nl 9700 x = true) (hX : x.length < 16000000) (S0 : List Cell) : ∀ (n : Nat) (S : List Cell) (is : List Nat) (top : List Dt) (bel : List (List Dt)) (fr po : Bool) (i : Nat) (u : List Nat) (s4 s5 : Slot),
    u.length ≤ n → x.drop i = u → i + u.length = x.length → SR S is (top :: bel) → (∀ a ∈ is, S0.length ≤ a) → Lft S0 S → (∀ t ∈ top :: bel, t.length ≤ i) → is.length ≤ 21 →
    (fr = true → 1 < is.length → ∃ p, atI x ((i : Int) - 1) = some p ∧ po = decide (p = 40)) →
    match mrun n po top bel fr u with
    | some (t', b') => ∃ S' is' i' fr' s4' s5', whileL (dcond (k + 2)) (dbody (k + 2)) (dst S x is i fr s4 s5) = .next (dst S' x is' i' fr' s4' s5') ∧ SR S' is' (t' :: b') ∧ Lft S0 S'
    | none => ∃ S' is' i' fr' s4' s5', whileL (dcond (k + 2)) (dbody (k + 2)) (dst S x is i fr s4 s5) = .exn (.mk 1 []) (dst S' x is' i' fr' s4' s5') ∧ Lft S0 S'
  | n, S, is, top, bel, fr, po, i, [], s4, s5, hu, hd, hi, hs, ha, hl, ht, h21, hp => by
    have e : mrun n po top bel fr [] = some (top, bel) := by cases n <;> rfl
    rw [e]
    refine ⟨S, is, i, fr, s4, s5, while_end ?_, hs, hl⟩
    simp only [List.length_nil] at hi
    unfold dst
    rw [dcond_ok, decide_eq_false (by omega)]
  | 0, S, is, top, bel, fr, po, i, c :: r, s4, s5, hu, hd, hi, hs, ha, hl, ht, h21, hp => by simp at hu
  | n + 1, S, is, top, bel, fr, po, i, c :: r, s4, s5, hu, hd, hi, hs, ha, hl, ht, h21, hp => by
    simp only [List.length_cons] at hu hi
    obtain ⟨hx, hr, hlt⟩ := drop_succ hd
    have hat : atI x (i : Int) = some c := by rw [atI_nat]; exact hx
    have hlen := hs.len
    simp only [List.length_cons] at hlen
    have hc : dcond (k + 2) (dst S x is i fr s4 s5) = .ok true (dst S x is i fr s4 s5) := by
      unfold dst
      rw [dcond_ok, decide_eq_true hlt]
    have T1 := t1_ok (k + 2) S x is i c fr s4 s5 hat
    have T2 := t2_ok (k + 2) S x is i c fr s4 s5 po hat hp
    have T3 := t3_ok (k + 2) S x is i fr s4 s5 _ hd
    have T4 := t4_ok (k + 2) S x is i c fr s4 s5 hat
    have hprev : atI x (((i + 1 : Nat) : Int) - 1) = some c := by
      have : ((i + 1 : Nat) : Int) - 1 = (i : Int) := by omega
      rw [this]; exact hat
    -- the next turn
    have go : ∀ {s1 : Sta} {M : Option (List Dt × List (List Dt))}, dbody (k + 2) (dst S x is i fr s4 s5) = .next s1 →
        (match M with
          | some (t', b') => ∃ S' is' i' fr' s4' s5', whileL (dcond (k + 2)) (dbody (k + 2)) s1 = .next (dst S' x is' i' fr' s4' s5') ∧ SR S' is' (t' :: b') ∧ Lft S0 S'
          | none => ∃ S' is' i' fr' s4' s5', whileL (dcond (k + 2)) (dbody (k + 2)) s1 = .exn (.mk 1 []) (dst S' x is' i' fr' s4' s5') ∧ Lft S0 S') →
        (match M with
          | some (t', b') => ∃ S' is' i' fr' s4' s5', whileL (dcond (k + 2)) (dbody (k + 2)) (dst S x is i fr s4 s5) = .next (dst S' x is' i' fr' s4' s5') ∧ SR S' is' (t' :: b') ∧ Lft S0 S'
          | none => ∃ S' is' i' fr' s4' s5', whileL (dcond (k + 2)) (dbody (k + 2)) (dst S x is i fr s4 s5) = .exn (.mk 1 []) (dst S' x is' i' fr' s4' s5') ∧ Lft S0 S') := fun {s1 M} hb hM => by
      match M, hM with
      | some (t', b'), ⟨S', is', i', fr', s4', s5', e, h1, h2⟩ =>
        exact ⟨S', is', i', fr', s4', s5', by rw [while_next hc (.inl hb) (by rw [e]; simp), e], h1, h2⟩
      | none, ⟨S', is', i', fr', s4', s5', e, h2⟩ =>
        exact ⟨S', is', i', fr', s4', s5', by rw [while_next hc (.inl hb) (by rw [e]; simp), e], h2⟩
    rw [mrun_cons]
    rw [← hlen]
    by_cases q1 : (fr && decide (c = 40) && decide (is.length ≤ 20)) = true
    · rw [if_pos q1]
      rw [q1] at T1
      refine go (one_stmt (exec_if_true T1 (b1_ok (k + 2) S x is i fr s4 s5 (by omega)))) ?_
      simp only [Bool.and_eq_true, decide_eq_true_eq] at q1
      obtain ⟨⟨q1a, q1b⟩, q1c⟩ := q1
      subst q1a
      refine dloop k x hn hX S0 n (S ++ [.L []]) (S.length :: is) [] (top :: bel) true true (i + 1) r s4 s5 (by omega) hr (by omega) ⟨by simp [toDs], fun z => absurd (hs.lt _ z) (by omega), hs.push⟩ (fun a h => ?_) hl.push (fun t h => ?_) (by simp; omega) (fun _ _ => ⟨c, hprev, by simp [q1b]⟩)
      · rcases List.mem_cons.mp h with h | h
        · subst h; exact Nat.le_of_lt hl.lt
        · exact ha a h
      · rcases List.mem_cons.mp h with h | h
        · subst h; simp
        · have := ht t h; omega
    · rw [if_neg q1]
      rw [Bool.not_eq_true] at q1
      rw [q1] at T1
      by_cases q2 : (decide (c = 41) && decide (is.length > 1) && (!fr || po)) = true
      · rw [if_pos q2]
        rw [q2] at T2
        simp only [Bool.and_eq_true, decide_eq_true_eq] at q2
        match is, bel, hs, hlen with
        | a :: b :: is', nx :: rest, hs, _ =>
          obtain ⟨h1, h2, h3, h4, h5⟩ := hs
          have hnx := ht nx (by simp)
          refine go (one_stmt (exec_if_false T1 (one_stmt (exec_if_true T2 (b2_ok (k + 2) S x is' i fr s4 s5 a b top nx h1 h3 (by omega)))))) ?_
          refine dloop k x hn hX S0 n _ (b :: is') (nx ++ [.tup top]) rest false false (i + 1) r _ s5 (by omega) hr (by omega) ⟨by rw [List.getElem?_set_self ((List.getElem?_eq_some_iff.mp h3).1)], h4, h5.set h4⟩ (fun a' h => ha a' (List.mem_cons_of_mem _ h)) (hl.set (ha b (by simp))) (fun t h => ?_) (by simp at h21 ⊢; omega) (fun z => by cases z)
          rcases List.mem_cons.mp h with h | h
          · subst h; simp; omega
          · have := ht t (by simp [h]); omega
        | [a], nx :: rest, hs, hq => simp at hq
        | a :: b :: is', [], hs, hq => simp at hq
        | [a], [], hs, hq => exact absurd q2.1.2 (by simp)
        | [], _, hs, hq => exact hs.elim
      · rw [if_neg q2]
        rw [Bool.not_eq_true] at q2
        rw [q2] at T2
        by_cases q3 : (!fr && decide (is.length > 1) && decide ((c :: r).take 2 = [44, 32])) = true
        · rw [if_pos q3]
          rw [q3] at T3
          refine go (one_stmt (exec_if_false T1 (one_stmt (exec_if_false T2 (one_stmt (exec_if_true T3 (b3_ok (k + 2) S x is i fr s4 s5))))))) ?_
          simp only [Bool.and_eq_true, decide_eq_true_eq] at q3
          obtain ⟨_, q3c⟩ := q3
          match r, q3c, hr, hi, hu with
          | e :: r', q3c, hr, hi, hu =>
            simp at q3c
            obtain ⟨rfl, rfl⟩ := q3c
            have hr2 := drop_succ hr
            simp only [List.length_cons] at hi hu
            refine dloop k x hn hX S0 n S is top bel true false (i + 2) r' s4 s5 (by omega) hr2.2.1 (by omega) hs ha hl (fun t h => Nat.le_trans (ht t h) (by omega)) h21 (fun _ _ => ⟨32, ?_, by decide⟩)
            have : ((i + 2 : Nat) : Int) - 1 = ((i + 1 : Nat) : Int) := by omega
            rw [this, atI_nat]
            exact hr2.1
          | [], q3c, hr, hi, hu => simp at q3c
        · rw [if_neg q3]
          rw [Bool.not_eq_true] at q3
          rw [q3] at T3
          by_cases q4 : (fr && !decide (c = 40)) = true
          · rw [if_pos q4]
            rw [q4] at T4
            have hrp := read_plain k S x i c r hd hn
            cases hq : rp (c :: r) with
            | none =>
              rw [hq] at hrp
              have hrp : (prog tb (k + 2)).call 4 [.str x, .int i] S = .exn (.mk 1 []) S := hrp
              have hb : dbody (k + 2) (dst S x is i fr s4 s5) = .exn (.mk 1 []) (dst S x is i fr s4 s5) := one_stmt (exec_if_false T1 (one_stmt (exec_if_false T2 (one_stmt (exec_if_false T3 (one_stmt (exec_if_true T4 (b4_exn (k + 2) S x is i fr s4 s5 hrp))))))))
              exact ⟨S, is, i, fr, s4, s5, while_exn hc hb, hl⟩
            | some dm =>
              obtain ⟨d, m⟩ := dm
              rw [hq] at hrp
              have hrp : (prog tb (k + 2)).call 4 [.str x, .int i] S = .ok false (.tup [toD d, .int (i + m : Nat)]) S := hrp
              obtain ⟨m1, m2⟩ := rp_le hq
              simp only [List.length_cons] at m2
              match is, hs, hlen with
              | a :: is', hs, _ =>
                obtain ⟨h1, h2, h3⟩ := hs
                have htop := ht top (by simp)
                refine go (one_stmt (exec_if_false T1 (one_stmt (exec_if_false T2 (one_stmt (exec_if_false T3 (one_stmt (exec_if_true T4 (b4_ok (k + 2) S x is' i fr s4 s5 a m top d h1 (by omega) hrp))))))))) ?_
                refine dloop k x hn hX S0 n _ (a :: is') (top ++ [d]) bel false false (i + m) ((c :: r).drop m) s4 _ (by rw [List.length_drop, List.length_cons]; omega) (by rw [← List.drop_drop, hd]) (by rw [List.length_drop, List.length_cons]; omega) ⟨by rw [List.getElem?_set_self ((List.getElem?_eq_some_iff.mp h1).1)], h2, h3.set h2⟩ ha (hl.set (ha a (by simp))) (fun t h => ?_) h21 (fun z => by cases z)
                rcases List.mem_cons.mp h with h | h
                · subst h; simp; omega
                · have := ht t (by simp [h]); omega
              | [], hs, _ => exact hs.elim
          · rw [if_neg q4]
            rw [Bool.not_eq_true] at q4
            rw [q4] at T4
            have hb : dbody (k + 2) (dst S x is i fr s4 s5) = .exn (.mk 1 []) (dst S x is i fr s4 s5) := one_stmt (exec_if_false T1 (one_stmt (exec_if_false T2 (one_stmt (exec_if_false T3 (one_stmt (exec_if_false T4 (one_stmt (by simp [exec, evs, Res.bind, Res.then])))))))))
            exact ⟨S, is, i, fr, s4, s5, while_exn hc hb, hl⟩
end K57

set_option Elab.async false
set_option linter.all false
set_option maxRecDepth 100000
set_option maxHeartbeats 4000000
set_option autoImplicit false
/-! k57, the plain law: data read. -/
namespace K57
open Z
def rd (x : List Nat) : Option Dt := match mrun x.length false [] [] true x with
  | some ([d], []) => some d
  | _ => none
mutual
theorem under_D (n : Nat) : ∀ d : Dt, (toD d).under n = true
  | .int _ => rfl
  | .txt _ => rfl
  | .tup l => by simp only [toD, D.under]; exact under_Ds n l
theorem under_Ds (n : Nat) : ∀ l : List Dt, unders n (toDs l) = true
  | [] => rfl
  | d :: r => by simp only [toDs, unders, under_D n d, under_Ds n r, Bool.and_self]
end
def okS (S : List Cell) : Prop := (S.all (Cell.under S.length)) = true
theorem gc_back {S0 S : List Cell} {ds : List D} (h : Lft S0 S) (ho : okS S0) (hd : unders S0.length ds = true) : gc S0.length ds S = S0 := by
  unfold gc
  rw [if_neg (by have := h.lt; omega)]
  have e : (S.take S0.length).all (Cell.under S0.length) = true := by rw [h.tk]; exact ho
  rw [hd, e]
  simp [h.tk]
abbrev dEnd : List Z.S := [(.ife (.bop false [(.cmp .NotEq (.pr .len [(.v 1)]) (.lit (.int 1))), (.cmp .NotEq (.pr .len [(.pr .ix [(.v 1), (.lit (.int 0))])]) (.lit (.int 1)))]) [(.rais 1 [])] []), (.ret (.pr .ix [(.pr .ix [(.v 1), (.lit (.int 0))]), (.lit (.int 0))]))]
theorem dend_many (k : Nat) (S : List Cell) (x : List Nat) (a b : Nat) (is : List Nat) (i : Nat) (fr : Bool) (s4 s5 : Slot) : execs (prog tb k) dEnd (dst S x (a :: b :: is) i fr s4 s5) = .exn (.mk 1 []) (dst S x (a :: b :: is) i fr s4 s5) := by
  have h : ((is.length : Int) + 2 = 1) ↔ False := ⟨fun h => by omega, fun h => h.elim⟩
  simp [exec, execs, ev, evs, evo, evrs, evt, evtb, evts, evit, evb, rdArg, rdPlace, readV, Place.get, Place.set, Arg.get, getAll, Res.bind, Res.then, RS.seq, lift, prim, prim1, prim2, binD, cmpD, ixD, slD, lenP, lenD, intD, negD, bindTo, assign, assigns, fin, derefS, gc, fit_str, fit_int, D.eqv, truthD, Cell.view, isList, mutC, mrecv, mprim, mprim2, mprim3, augD, toCell, Option.bind, fromF, isiP, isiD, tupleD, listD, seqOf, noX, iterD, isSh, dst, dst0, h]
theorem dend_one (k : Nat) (S : List Cell) (x : List Nat) (a : Nat) (d : Dt) (ha : S[a]? = some (.L (toDs [d]))) (i : Nat) (fr : Bool) (s4 s5 : Slot) : execs (prog tb k) dEnd (dst S x [a] i fr s4 s5) = .ret false (toD d) (dst S x [a] i fr s4 s5) := by
  simp [exec, execs, ev, evs, evo, evrs, evt, evtb, evts, evit, evb, rdArg, rdPlace, readV, Place.get, Place.set, Arg.get, getAll, Res.bind, Res.then, RS.seq, lift, prim, prim1, prim2, binD, cmpD, ixD, slD, lenP, lenD, intD, negD, bindTo, assign, assigns, fin, derefS, gc, fit_str, fit_int, D.eqv, truthD, Cell.view, isList, mutC, mrecv, mprim, mprim2, mprim3, augD, toCell, Option.bind, fromF, isiP, isiD, tupleD, listD, seqOf, noX, iterD, isSh, dst, dst0, atI_zero, ha, toDs]
theorem dend_bad (k : Nat) (S : List Cell) (x : List Nat) (a : Nat) (t : List Dt) (ha : S[a]? = some (.L (toDs t))) (ht : t.length ≠ 1) (i : Nat) (fr : Bool) (s4 s5 : Slot) : execs (prog tb k) dEnd (dst S x [a] i fr s4 s5) = .exn (.mk 1 []) (dst S x [a] i fr s4 s5) := by
  have h : (((toDs t).length : Int) = 1) ↔ False := by
    rw [toDs_len]
    exact ⟨fun h => by omega, fun h => h.elim⟩
  simp [exec, execs, ev, evs, evo, evrs, evt, evtb, evts, evit, evb, rdArg, rdPlace, readV, Place.get, Place.set, Arg.get, getAll, Res.bind, Res.then, RS.seq, lift, prim, prim1, prim2, binD, cmpD, ixD, slD, lenP, lenD, intD, negD, bindTo, assign, assigns, fin, derefS, gc, fit_str, fit_int, D.eqv, truthD, Cell.view, isList, mutC, mrecv, mprim, mprim2, mprim3, augD, toCell, Option.bind, fromF, isiP, isiD, tupleD, listD, seqOf, noX, iterD, isSh, dst, dst0, atI_zero, ha, h]
theorem read_data (k : Nat) (S0 : List Cell) (ho : okS S0) (x : List Nat) (hn : nl 9700 x = true) (hX : x.length < 16000000) :
    Phi tb (k + 3) 5 [.str x] S0 = match rd x with
      | some d => .ok false (toD d) S0
      | none => .exn (.mk 1 []) S0 := by
  rw [phi_succ (fn := f5) rfl rfl (by decide)]
  show fin S0.length (execs (prog tb (k + 2)) f5.body ⟨[.sh (.str x), .no, .no, .no, .no, .no], S0⟩) = _
  have st1 : exec (prog tb (k + 2)) (.set 1 (.lst [(.cell (.lst []))])) ⟨[.sh (.str x), .no, .no, .no, .no, .no], S0⟩ = .next ⟨[.sh (.str x), .own (.L [.ref S0.length]), .no, .no, .no, .no], S0 ++ [.L []]⟩ := by
    simp [exec, execs, ev, evs, evo, evrs, evt, evtb, evts, evit, evb, rdArg, rdPlace, readV, Place.get, Place.set, Arg.get, getAll, Res.bind, Res.then, RS.seq, lift, prim, prim1, prim2, binD, cmpD, ixD, slD, lenP, lenD, intD, negD, bindTo, assign, assigns, fin, derefS, gc, fit_str, fit_int, D.eqv, truthD, Cell.view, isList, mutC, mrecv, mprim, mprim2, mprim3, augD, toCell, Option.bind, fromF, isiP, isiD, tupleD, listD, seqOf, noX, iterD, isSh, LIM]
  have st2 : exec (prog tb (k + 2)) (.set 2 (.lit (.int 0))) ⟨[.sh (.str x), .own (.L [.ref S0.length]), .no, .no, .no, .no], S0 ++ [.L []]⟩ = .next ⟨[.sh (.str x), .own (.L [.ref S0.length]), .sh (.int 0), .no, .no, .no], S0 ++ [.L []]⟩ := by
    simp [exec, execs, ev, evs, evo, evrs, evt, evtb, evts, evit, evb, rdArg, rdPlace, readV, Place.get, Place.set, Arg.get, getAll, Res.bind, Res.then, RS.seq, lift, prim, prim1, prim2, binD, cmpD, ixD, slD, lenP, lenD, intD, negD, bindTo, assign, assigns, fin, derefS, gc, fit_str, fit_int, D.eqv, truthD, Cell.view, isList, mutC, mrecv, mprim, mprim2, mprim3, augD, toCell, Option.bind, fromF, isiP, isiD, tupleD, listD, seqOf, noX, iterD, isSh]
  have st3 : exec (prog tb (k + 2)) (.set 3 (.lit (.bl true))) ⟨[.sh (.str x), .own (.L [.ref S0.length]), .sh (.int 0), .no, .no, .no], S0 ++ [.L []]⟩ = .next (dst (S0 ++ [.L []]) x [S0.length] 0 true .no .no) := by
    simp [exec, execs, ev, evs, evo, evrs, evt, evtb, evts, evit, evb, rdArg, rdPlace, readV, Place.get, Place.set, Arg.get, getAll, Res.bind, Res.then, RS.seq, lift, prim, prim1, prim2, binD, cmpD, ixD, slD, lenP, lenD, intD, negD, bindTo, assign, assigns, fin, derefS, gc, fit_str, fit_int, D.eqv, truthD, Cell.view, isList, mutC, mrecv, mprim, mprim2, mprim3, augD, toCell, Option.bind, fromF, isiP, isiD, tupleD, listD, seqOf, noX, iterD, isSh, dst, dst0]
  have lf : Lft S0 (S0 ++ [.L []]) := ⟨by simp, by simp⟩
  have main := dloop k x hn hX S0 x.length (S0 ++ [.L []]) [S0.length] [] [] true false 0 x .no .no (Nat.le_refl _) rfl (by omega) ⟨by simp [toDs], by simp, trivial⟩ (fun a h => by simp at h; omega) lf (fun t h => by simp at h; subst h; simp) (by simp) (fun _ h => by simp at h)
  unfold rd
  unfold f5
  simp only
  rw [seq_next st1, seq_next st2, seq_next st3]
  cases hm : mrun x.length false [] [] true x with
  | none =>
    rw [hm] at main
    obtain ⟨S', is', i', fr', s4', s5', e, h2⟩ := main
    have st4 := (exec_whl (P := prog tb (k + 2)) (t := .cmp .Lt (.v 2) (.pr .len [(.v 0)])) (b := dB) (s := dst (S0 ++ [.L []]) x [S0.length] 0 true .no .no)).trans e
    rw [seq_exn st4]
    simp only [fin]
    rw [show (dst S' x is' i' fr' s4' s5').S = S' from rfl, gc_back h2 ho rfl]
  | some tb' =>
    obtain ⟨t', b'⟩ := tb'
    rw [hm] at main
    obtain ⟨S', is', i', fr', s4', s5', e, h1, h2⟩ := main
    have st4 := (exec_whl (P := prog tb (k + 2)) (t := .cmp .Lt (.v 2) (.pr .len [(.v 0)])) (b := dB) (s := dst (S0 ++ [.L []]) x [S0.length] 0 true .no .no)).trans e
    rw [seq_next st4]
    match is', b', h1 with
    | [a], [], h1 =>
      match t', h1 with
      | [d], h1 =>
        have := dend_one (k + 2) S' x a d h1.1 i' fr' s4' s5'
        rw [this]
        simp only [fin]
        rw [show (dst S' x [a] i' fr' s4' s5').S = S' from rfl, gc_back h2 ho (by simp [unders, under_D])]
      | [], h1 =>
        have := dend_bad (k + 2) S' x a [] h1.1 (by simp) i' fr' s4' s5'
        rw [this]
        simp only [fin]
        rw [show (dst S' x [a] i' fr' s4' s5').S = S' from rfl, gc_back h2 ho rfl]
      | d1 :: d2 :: r, h1 =>
        have := dend_bad (k + 2) S' x a (d1 :: d2 :: r) h1.1 (by simp) i' fr' s4' s5'
        rw [this]
        simp only [fin]
        rw [show (dst S' x [a] i' fr' s4' s5').S = S' from rfl, gc_back h2 ho rfl]
    | a :: b :: is', t2 :: b', h1 =>
      have := dend_many (k + 2) S' x a b is' i' fr' s4' s5'
      rw [this]
      simp only [fin]
      rw [show (dst S' x (a :: b :: is') i' fr' s4' s5').S = S' from rfl, gc_back h2 ho rfl]
    | [], _, h1 => exact h1.elim
    | [a], _ :: _, h1 => exact h1.2.2.elim
    | _ :: _ :: _, [], h1 => exact h1.2.2.elim
end K57

set_option Elab.async false
set_option linter.all false
set_option maxRecDepth 100000
set_option maxHeartbeats 4000000
set_option autoImplicit false
/-! k57, the plain law: what is written is read back, what is bent is refused. -/
namespace K57
open Z
theorem mrun_fuel : ∀ (n : Nat) (u : List Nat) (po : Bool) (top : List Dt) (bel : List (List Dt)) (fr : Bool), u.length ≤ n → mrun n po top bel fr u = mrun u.length po top bel fr u := by
  intro n
  induction n using Nat.strongRecOn with
  | ind n ih =>
    intro u po top bel fr h
    match n, u, h with
    | n, [], h => cases n <;> rfl
    | n + 1, c :: r, h =>
      simp only [List.length_cons] at h ⊢
      rw [mrun_cons, mrun_cons]
      have f : ∀ (u' : List Nat) (po : Bool) (top : List Dt) (bel : List (List Dt)) (fr : Bool), u'.length ≤ r.length → mrun n po top bel fr u' = mrun r.length po top bel fr u' := fun u' po top bel fr hu => by
        rw [ih n (by omega) u' po top bel fr (by omega)]
        by_cases hr : r.length < n + 1
        · rw [ih r.length hr u' po top bel fr hu]
        · omega
      rw [f r _ _ _ _ (Nat.le_refl _)]
      split
      · rfl
      · split
        · cases bel with
          | nil => rfl
          | cons nx rest => exact f r _ _ _ _ (Nat.le_refl _)
        · split
          · exact f _ _ _ _ _ (by simp)
          · split
            · cases hq : rp (c :: r) with
              | none => rfl
              | some dm =>
                obtain ⟨d, m⟩ := dm
                have := rp_le hq
                exact f _ _ _ _ _ (by rw [List.length_drop, List.length_cons]; omega)
            · rfl
def M (po : Bool) (top : List Dt) (bel : List (List Dt)) (fr : Bool) (u : List Nat) : Option (List Dt × List (List Dt)) := mrun u.length po top bel fr u
theorem M_cons (po : Bool) (top : List Dt) (bel : List (List Dt)) (fr : Bool) (c : Nat) (r : List Nat) : M po top bel fr (c :: r) = (if (fr && decide (c = 40) && decide (bel.length + 1 ≤ 20)) = true then M true [] (top :: bel) true r
      else if (decide (c = 41) && decide (bel.length + 1 > 1) && (!fr || po)) = true then (match bel with
        | nx :: rest => M false (nx ++ [.tup top]) rest false r
        | [] => none)
      else if (!fr && decide (bel.length + 1 > 1) && decide ((c :: r).take 2 = [44, 32])) = true then M false top bel true (r.drop 1)
      else if (fr && !decide (c = 40)) = true then (match rp (c :: r) with
        | some (d, m) => M false (top ++ [d]) bel false ((c :: r).drop m)
        | none => none)
      else none) := by
  unfold M
  rw [List.length_cons, mrun_cons]
  congr 1
  · split
    · cases bel with
      | nil => rfl
      | cons nx rest => rfl
    · split
      · exact mrun_fuel _ _ _ _ _ _ (by simp)
      · split
        · cases hq : rp (c :: r) with
          | none => rfl
          | some dm =>
            obtain ⟨d, m⟩ := dm
            have := rp_le hq
            exact mrun_fuel _ _ _ _ _ _ (by rw [List.length_drop, List.length_cons]; omega)
        · rfl
theorem M_po (po po' : Bool) (top : List Dt) (bel : List (List Dt)) (u : List Nat) : M po top bel false u = M po' top bel false u := by
  cases u with
  | nil => rfl
  | cons c r => rw [M_cons, M_cons]; simp
theorem rd_M (x : List Nat) : rd x = match M false [] [] true x with
  | some ([d], []) => some d
  | _ => none := rfl
/-! ### refused -/
theorem M_end (po : Bool) (top : List Dt) (c : Nat) (r : List Nat) : M po top [] false (c :: r) = none := by
  rw [M_cons]; simp
theorem plc_ne {c : Nat} (h : plc c = true) : c ≠ 10 := by
  unfold plc at h
  simp at h
  omega
theorem isS_ne {c : Nat} (h : isS c = true) : c ≠ 10 := by
  unfold isS isD at h
  simp at h
  omega
theorem take_find : ∀ {x : List Nat} {n : Nat}, findN 39 x = some n → x = x.take n ++ 39 :: x.drop (n + 1)
  | [], _, h => by simp [findN] at h
  | y :: r, n, h => by
    simp only [findN] at h
    split at h
    · rename_i e
      cases h
      subst e
      simp
    · split at h
      · rename_i k hk
        cases h
        have := take_find hk
        simp only [List.take_succ_cons, List.drop_succ_cons, List.cons_append]
        rw [← this]
      · cases h
theorem mem_tw : ∀ {x : List Nat} {c : Nat}, c ∈ x.takeWhile isS → isS c = true
  | [], _, h => by simp at h
  | a :: r, c, h => by
    by_cases ha : isS a = true
    · rw [List.takeWhile_cons_of_pos ha] at h
      rcases List.mem_cons.mp h with e | e
      · subst e; exact ha
      · exact mem_tw e
    · rw [List.takeWhile_cons_of_neg ha] at h
      simp at h
theorem rp_keep {u : List Nat} {d : Dt} {m : Nat} (h : rp u = some (d, m)) (hm : 10 ∈ u) : 10 ∈ u.drop m := by
  unfold rp at h
  split at h
  · rename_i h39
    cases u with
    | nil => simp at hm
    | cons c r =>
      simp at h39
      subst h39
      split at h
      · rename_i n hn
        by_cases hp : pl ((39 :: r).tail.take n) = true
        · rw [if_pos hp] at h
          cases h
          have hp : pl (r.take n) = true := hp
          have e := take_find (show findN 39 r = some n from hn)
          have hm : 10 ∈ r := by simpa using hm
          rw [e] at hm
          simp only [List.mem_append, List.mem_cons] at hm
          rcases hm with hm | hm | hm
          · exfalso
            unfold pl at hp
            rw [List.all_eq_true] at hp
            exact plc_ne (hp 10 hm) rfl
          · omega
          · simpa using hm
        · rw [if_neg hp] at h
          cases h
      · cases h
  · split at h
    · cases h
      rw [← List.takeWhile_append_dropWhile (p := isS) (l := u)] at hm
      rcases List.mem_append.mp hm with hm | hm
      · exfalso
        have := mem_tw hm
        exact isS_ne this rfl
      · have e : u.drop (u.takeWhile isS).length = u.dropWhile isS := by
          conv => lhs; arg 2; rw [← List.takeWhile_append_dropWhile (p := isS) (l := u)]
          rw [List.drop_left]
        rw [e]; exact hm
    · cases h
theorem M_nl : ∀ (n : Nat) (u : List Nat) (po : Bool) (top : List Dt) (bel : List (List Dt)) (fr : Bool), u.length ≤ n → 10 ∈ u → M po top bel fr u = none
  | n, [], _, _, _, _, _, h => by simp at h
  | 0, c :: r, _, _, _, _, hl, h => by simp at hl
  | n + 1, c :: r, po, top, bel, fr, hl, h => by
    simp only [List.length_cons] at hl
    rw [M_cons]
    have hr : c ≠ 10 → 10 ∈ r := fun hc => by
      rcases List.mem_cons.mp h with e | e
      · exact absurd e.symm hc
      · exact e
    split
    · rename_i q
      simp only [Bool.and_eq_true, decide_eq_true_eq] at q
      exact M_nl n r _ _ _ _ (by omega) (hr (by omega))
    · split
      · rename_i q
        simp only [Bool.and_eq_true, decide_eq_true_eq] at q
        cases bel with
        | nil => rfl
        | cons nx rest => exact M_nl n r _ _ _ _ (by omega) (hr (by omega))
      · split
        · rename_i q
          simp only [Bool.and_eq_true, decide_eq_true_eq] at q
          have q2 := q.2
          cases r with
          | nil => simp at q2
          | cons e r' =>
            simp at q2
            obtain ⟨rfl, rfl⟩ := q2
            have := hr (by omega)
            simp at this
            simp only [List.length_cons] at hl
            exact M_nl n r' _ _ _ _ (by omega) this
        · split
          · cases hq : rp (c :: r) with
            | none => rfl
            | some dm =>
              obtain ⟨d, m⟩ := dm
              have := rp_le hq
              exact M_nl n _ _ _ _ _ (by rw [List.length_drop, List.length_cons]; omega) (rp_keep hq h)
          · rfl
theorem M_deep : ∀ (m : Nat) (rest : List Nat) (po : Bool) (top : List Dt) (bel : List (List Dt)), 20 < bel.length + m → bel.length ≤ 20 → M po top bel true (List.replicate m 40 ++ rest) = none
  | 0, _, _, _, bel, h, h2 => by omega
  | m + 1, rest, po, top, bel, h, h2 => by
    rw [List.replicate_succ, List.cons_append, M_cons]
    by_cases q : bel.length + 1 ≤ 20
    · rw [if_pos (by simp; omega)]
      exact M_deep m rest _ _ _ (by simp; omega) (by simp; omega)
    · rw [if_neg (by simp; omega)]
      simp
/-! ### read back -/
def hok (rest : List Nat) : Prop := ∀ c, rest.head? = some c → isS c = false
theorem allDig_isS {x : List Nat} (h : allDig x = true) : ∀ c ∈ x, isS c = true := fun c hc => by
  unfold allDig at h
  rw [List.all_eq_true] at h
  have := h c hc
  unfold isS isD
  rw [this]
  simp
theorem wi_isS (z : Int) : ∀ c ∈ wi z, isS c = true := fun c hc => by
  unfold wi at hc
  split at hc
  · rcases List.mem_cons.mp hc with e | e
    · subst e; decide
    · exact allDig_isS (allDig_digits _) c e
  · exact allDig_isS (allDig_digits _) c hc
theorem wi_ne (z : Int) : wi z ≠ [] := by
  unfold wi
  split
  · simp
  · exact digits_ne _
theorem takeWhile_app : ∀ {w rest : List Nat}, (∀ c ∈ w, isS c = true) → hok rest → (w ++ rest).takeWhile isS = w
  | [], rest, _, h => by
    cases rest with
    | nil => rfl
    | cons c r => rw [List.nil_append, List.takeWhile_cons_of_neg (by rw [h c rfl]; decide)]
  | c :: w, rest, hw, h => by
    rw [List.cons_append, List.takeWhile_cons_of_pos (hw c List.mem_cons_self), takeWhile_app (fun d hd => hw d (List.mem_cons_of_mem _ hd)) h]
theorem digits_first (n : Nat) : ∃ c r, digits n = c :: r ∧ 48 ≤ c ∧ c ≤ 57 ∧ (c = 48 → n = 0) := by
  cases hd : digits n with
  | nil => exact absurd hd (digits_ne n)
  | cons c r =>
    have ha := allDig_digits n
    rw [hd] at ha
    unfold allDig at ha
    simp only [List.all_cons, Bool.and_eq_true, decide_eq_true_eq] at ha
    refine ⟨c, r, rfl, ha.1.1, ha.1.2, fun h => ?_⟩
    by_cases hn : n = 0
    · exact hn
    · obtain ⟨c', r', e, hc⟩ := digits_head (n := n) (by omega)
      rw [hd] at e
      cases e
      omega
theorem wi_ok (z : Int) : okI (wi z) = true ∧ vi (wi z) = z := by
  obtain ⟨c, r, e, h1, h2, h3⟩ := digits_first z.natAbs
  have ha := allDig_digits z.natAbs
  have hv := digVal_digits z.natAbs
  unfold wi
  by_cases hz : z < 0
  · rw [if_pos hz]
    have ed : dg (45 :: digits z.natAbs) = digits z.natAbs := by rw [dg_cons]; simp
    have hc : c ≠ 48 := fun h => by have := h3 h; omega
    unfold okI badHead vi
    rw [ed]
    refine ⟨?_, ?_⟩
    · rw [ha, e]; simp [hc]
    · rw [hv]; simp; omega
  · rw [if_neg hz]
    have ed : dg (digits z.natAbs) = digits z.natAbs := by
      rw [e, dg_cons, if_neg (by omega)]
    unfold okI badHead vi
    rw [ed]
    refine ⟨?_, ?_⟩
    · rw [ha]
      by_cases hc : c = 48
      · have := h3 hc
        rw [this, digits_lt10 (by decide)]
        decide
      · rw [e]; simp [hc]
    · rw [hv, e]
      have : c ≠ 45 := by omega
      simp [this]
      omega
theorem wi_head (z : Int) : ∃ c r, wi z = c :: r ∧ c ≠ 39 ∧ c ≠ 40 ∧ c ≠ 41 := by
  cases h : wi z with
  | nil => exact absurd h (wi_ne z)
  | cons c r =>
    have := wi_isS z c (by rw [h]; exact List.mem_cons_self)
    unfold isS isD at this
    simp at this
    exact ⟨c, r, rfl, by omega, by omega, by omega⟩
theorem rp_int (z : Int) (rest : List Nat) (h : hok rest) : rp (wi z ++ rest) = some (.int z, (wi z).length) := by
  obtain ⟨c, r, e, h1, _, _⟩ := wi_head z
  obtain ⟨o1, o2⟩ := wi_ok z
  have et := takeWhile_app (wi_isS z) h
  unfold rp
  rw [et]
  have : ¬ (wi z ++ rest).head? = some 39 := by rw [e]; simp [h1]
  rw [if_neg this, if_pos o1, o2]
theorem find_app : ∀ (x rest : List Nat), 39 ∉ x → findN 39 (x ++ 39 :: rest) = some x.length
  | [], rest, _ => by simp [findN]
  | c :: x, rest, h => by
    simp only [List.mem_cons, not_or] at h
    simp only [List.cons_append, findN]
    rw [if_neg (Ne.symm h.1), find_app x rest h.2]
    rfl
theorem rp_txt (x rest : List Nat) (h : pl x = true) : rp (39 :: (x ++ 39 :: rest)) = some (.txt x, x.length + 2) := by
  have h39 : 39 ∉ x := fun z => by
    unfold pl at h
    rw [List.all_eq_true] at h
    have := h 39 z
    simp [plc] at this
  unfold rp
  rw [if_pos (by simp)]
  simp only [List.tail_cons]
  rw [find_app x rest h39]
  simp [h]
mutual
/-- texts of plain signs -/
def pd : Dt → Prop
  | .int _ => True
  | .txt x => pl x = true
  | .tup l => pds l
def pds : List Dt → Prop
  | [] => True
  | d :: r => pd d ∧ pds r
end
mutual
theorem M_wr : ∀ (d : Dt) (po : Bool) (top : List Dt) (bel : List (List Dt)) (rest : List Nat), pd d → bel.length + hi d ≤ 20 → hok rest → M po top bel true (wr d ++ rest) = M false (top ++ [d]) bel false rest
  | .int z, po, top, bel, rest, hp, hh, ho => by
    obtain ⟨c, r, e, h1, h2, h3⟩ := wi_head z
    have hr := rp_int z rest ho
    have ed : (wi z ++ rest).drop (wi z).length = rest := List.drop_left
    simp only [wr]
    rw [e] at hr ed ⊢
    rw [List.cons_append] at hr ed ⊢
    rw [M_cons, hr]
    simp only
    rw [ed]
    simp [h2, h3]
  | .txt x, po, top, bel, rest, hp, hh, ho => by
    simp only [pd] at hp
    have hr := rp_txt x rest hp
    have e : wr (.txt x) ++ rest = 39 :: (x ++ 39 :: rest) := by simp [wr]
    rw [e, M_cons, hr]
    simp only
    have ed : (39 :: (x ++ 39 :: rest)).drop (x.length + 2) = rest := by
      simp
    rw [ed]
    simp
  | .tup l, po, top, bel, rest, hp, hh, ho => by
    simp only [pd] at hp
    simp only [hi] at hh
    have e : wr (.tup l) ++ rest = 40 :: (joinL [44, 32] (wrs l) ++ 41 :: rest) := by simp [wr]
    rw [e, M_cons, if_pos (by simp; omega)]
    cases l with
    | nil =>
      simp only [wrs, joinL, List.nil_append]
      rw [M_cons]
      simp
    | cons d r =>
      have := Ms_wr (d :: r) (by simp) true [] top bel rest hp (by simp only [his] at hh ⊢; omega) ho
      simpa using this
theorem Ms_wr : ∀ (l : List Dt), l ≠ [] → ∀ (po : Bool) (acc top : List Dt) (bel : List (List Dt)) (rest : List Nat), pds l → bel.length + 1 + his l ≤ 20 → hok rest →
    M po acc (top :: bel) true (joinL [44, 32] (wrs l) ++ 41 :: rest) = M false (top ++ [.tup (acc ++ l)]) bel false rest
  | [], h, _, _, _, _, _, _, _, _ => absurd rfl h
  | [d], _, po, acc, top, bel, rest, hp, hh, ho => by
    simp only [pds] at hp
    simp only [his] at hh
    simp only [wrs, joinL]
    rw [M_wr d po acc (top :: bel) (41 :: rest) hp.1 (by simp; omega) (fun c hc => by simp at hc; subst hc; decide)]
    rw [M_cons]
    simp
  | d :: e :: r, _, po, acc, top, bel, rest, hp, hh, ho => by
    simp only [pds] at hp
    simp only [his] at hh
    have ih := Ms_wr (e :: r) (by simp) false (acc ++ [d]) top bel rest (by simp only [pds]; exact hp.2) (by simp only [his]; omega) ho
    have ej : joinL [44, 32] (wrs (d :: e :: r)) ++ 41 :: rest = wr d ++ (44 :: 32 :: (joinL [44, 32] (wrs (e :: r)) ++ 41 :: rest)) := by
      simp only [wrs, joinL]
      simp
    rw [ej, M_wr d po acc (top :: bel) _ hp.1 (by simp; omega) (fun c hc => by simp at hc; subst hc; decide)]
    rw [M_cons]
    rw [if_neg (by simp), if_neg (by simp), if_pos (by simp)]
    rw [List.drop_one, List.tail_cons, ih]
    simp
end
theorem rd_wr (d : Dt) (hp : pd d) (hh : hi d ≤ 20) : rd (wr d) = some d := by
  have := M_wr d false [] [] [] hp (by simpa using hh) (fun c hc => by simp at hc)
  rw [rd_M]
  rw [List.append_nil] at this
  rw [this]
  rfl
theorem rd_none {x : List Nat} (h : M false [] [] true x = none) : rd x = none := by rw [rd_M, h]
theorem M_wr0 (d : Dt) (c : Nat) (r : List Nat) (hp : pd d) (hh : hi d ≤ 20) (hc : isS c = false) : rd (wr d ++ c :: r) = none := by
  apply rd_none
  rw [M_wr d false [] [] (c :: r) hp (by simpa using hh) (fun e he => by simp at he; subst he; exact hc)]
  exact M_end _ _ _ _
theorem rd_nl {x : List Nat} (h : 10 ∈ x) : rd x = none := rd_none (M_nl _ x _ _ _ _ (Nat.le_refl _) h)
theorem rd_open (d : Dt) (hp : pd d) (hh : hi d ≤ 19) : rd (40 :: wr d) = none := by
  have := M_wr d true [] [[]] [] hp (by simp; omega) (fun c hc => by simp at hc)
  rw [List.append_nil] at this
  rw [rd_M, M_cons, if_pos (by simp), this]
  rfl
theorem rd_blank (x : List Nat) : rd (32 :: x) = none := by
  apply rd_none
  rw [M_cons]
  have : rp (32 :: x) = none := by
    unfold rp
    rw [if_neg (by simp), List.takeWhile_cons_of_neg (by decide)]
    rfl
  rw [this]
  simp
theorem ok_bad {x : List Nat} {c : Nat} (h : c ∈ x) (h1 : c ≠ 45) (h2 : isD c = false) : okI x = false := by
  have hd : c ∈ dg x := by
    unfold dg
    split
    · rename_i e
      cases x with
      | nil => simp at h
      | cons a r =>
        simp at e
        subst e
        rcases List.mem_cons.mp h with z | z
        · exact absurd z h1
        · simpa using z
    · exact h
  have : allDig (dg x) = false := by
    cases q : allDig (dg x) with
    | false => rfl
    | true =>
      unfold allDig at q
      rw [List.all_eq_true] at q
      have := q c hd
      unfold isD at h2
      rw [h2] at this
      cases this
  unfold okI
  rw [this, Bool.and_false]
theorem ok_zero (z : Int) : okI (48 :: wi z) = false := by
  have e : dg (48 :: wi z) = 48 :: wi z := by rw [dg_cons]; simp
  have : badHead (48 :: wi z) = true := by
    unfold badHead
    rw [e]
    simp [wi_ne z]
  unfold okI
  rw [this]
  rfl
end K57

set_option Elab.async false
set_option linter.all false
set_option maxRecDepth 100000
set_option maxHeartbeats 4000000
set_option autoImplicit false
set_option exponentiation.threshold 50000
/-! k57, the plain law: what is drawn. -/
namespace K57
open Z
structure DS where
  ns : List Int
  a : Int
  b : Int
  c : Int
def DS.cell (s : DS) : Cell := .L [.lst (s.ns.map .int), .int s.a, .int s.b, .int s.c]
theorem start_ok (k : Nat) (ns : List Int) : Phi tb (k + 1) 6 [.scr ns] [] = .ok false (.ref 0) [DS.cell ⟨ns, 0, 0, 0⟩] := by
  rw [phi_succ (fn := f6) rfl rfl (by decide)]
  simp [f6, execs, exec, ev, evs, evrs, rdArg, Arg.get, getAll, Res.bind, Res.then, RS.seq, lift, prim, prim1, listD, fin, gc, toCell, DS.cell, derefS, D.under, unders, LIM]
def cellv (st : DS) : Int := if 0 < st.ns.length then (if st.ns.getD (st.a % st.ns.length).toNat 0 < 0 then -st.ns.getD (st.a % st.ns.length).toNat 0 else st.ns.getD (st.a % st.ns.length).toNat 0) else 0
def mixv (st : DS) : Int := ((((cellv st + 1) * 48271 + (st.c + 1) * 69621) % 2147483647) * 16807 + cellv st / 97 + (st.c + 1)) % 2147483629
def dv (st : DS) (m : Int) : Int := if 0 < st.b then st.b % m else if 1000000000000000000 ≤ cellv st then cellv st % m else mixv st / 11 % m
def ds (st : DS) (m : Int) : DS := if 0 < st.b then ⟨st.ns, st.a, st.b / m, st.c + 1⟩ else if 1000000000000000000 ≤ cellv st then ⟨st.ns, st.a + 1, cellv st / m, st.c + 1⟩ else ⟨st.ns, st.a + 1, st.b, st.c + 1⟩
theorem cellv_nn (st : DS) : 0 ≤ cellv st := by
  unfold cellv
  split
  · split <;> omega
  · exact Int.le_refl 0
theorem dv_lo (st : DS) {m : Int} (h : 0 < m) : 0 ≤ dv st m := by
  unfold dv
  split
  · exact Int.emod_nonneg _ (by omega)
  · split <;> exact Int.emod_nonneg _ (by omega)
theorem dv_hi (st : DS) {m : Int} (h : 0 < m) : dv st m < m := by
  unfold dv
  split
  · exact Int.emod_lt_of_pos _ h
  · split <;> exact Int.emod_lt_of_pos _ h
theorem ix_script (st : DS) (h : 0 < st.ns.length) : atI (st.ns.map D.int) (st.a % st.ns.length) = some (.int (st.ns.getD (st.a % st.ns.length).toNat 0)) := by
  have h0 : 0 ≤ st.a % (st.ns.length : Int) := Int.emod_nonneg _ (by omega)
  have h1 : st.a % (st.ns.length : Int) < st.ns.length := Int.emod_lt_of_pos _ (by omega)
  unfold atI ixN
  rw [List.length_map, if_pos h0, if_pos h1]
  have h2 : (st.a % (st.ns.length : Int)).toNat < st.ns.length := by omega
  simp [List.getElem?_eq_getElem h2]
theorem div1 {m : Int} (h : 0 < m) (h2 : m < 1073741824) : divOk m = true := by simp [divOk, h, h2]
theorem at0 (a b c d : D) : atI [a, b, c, d] 0 = some a := rfl
theorem at1 (a b c d : D) : atI [a, b, c, d] 1 = some b := rfl
theorem at2 (a b c d : D) : atI [a, b, c, d] 2 = some c := rfl
theorem at3 (a b c d : D) : atI [a, b, c, d] 3 = some d := rfl
theorem put1 (a b c d x : D) : putC (.L [a, b, c, d]) (.int 1) x = some (.L [a, x, c, d]) := rfl
theorem put2 (a b c d x : D) : putC (.L [a, b, c, d]) (.int 2) x = some (.L [a, b, x, d]) := rfl
theorem put3 (a b c d x : D) : putC (.L [a, b, c, d]) (.int 3) x = some (.L [a, b, c, x]) := rfl
theorem mul_r {i j : Int} (h : j.natAbs < 18446744073709551616) : mulOk i j = true := by simp [mulOk, h]
theorem pow18 : (10 : Int) ^ Int.toNat 18 = 1000000000000000000 := by decide
theorem draw_ok (k : Nat) (st : DS) {m : Int} (h : 0 < m) (h2 : m < 1073741824) : Phi tb (k + 1) 7 [.ref 0, .int m] [st.cell] = .ok false (.int (dv st m)) [(ds st m).cell] := by
  rw [phi_succ (fn := f7) rfl rfl (by decide)]
  have hd := div1 h h2
  have m1 : ∀ i, mulOk i 48271 = true := fun i => mul_r (by decide)
  have m2 : ∀ i, mulOk i 69621 = true := fun i => mul_r (by decide)
  have m3 : ∀ i, mulOk i 16807 = true := fun i => mul_r (by decide)
  have d97 : divOk 97 = true := by decide
  have d11 : divOk 11 = true := by decide
  by_cases hb : 0 < st.b
  · simp [f7, execs, exec, ev, evs, evrs, evt, rdArg, rdPlace, Place.get, Place.set, Arg.get, getAll, Res.bind, Res.then, RS.seq, lift, prim, prim1, prim2, binD, cmpD, ixD, intD, bindTo, fin, gc, DS.cell, derefS, Cell.view, at3, at2, put3, put2, hb, hd, h, dv, ds, readV]
  · by_cases hn : 0 < st.ns.length
    · obtain ⟨q, ix, hq⟩ : ∃ q, atI (st.ns.map D.int) (st.a % st.ns.length) = some (.int q) ∧ (if q < 0 then -q else q) = cellv st := ⟨_, ix_script st hn, by unfold cellv; rw [if_pos hn]⟩
      by_cases hc : 1000000000000000000 ≤ cellv st
      · simp [f7, execs, exec, ev, evs, evrs, evt, rdArg, rdPlace, Place.get, Place.set, Arg.get, getAll, Res.bind, Res.then, RS.seq, lift, prim, prim1, prim2, binD, cmpD, ixD, intD, lenP, lenD, absD, bindTo, fin, gc, DS.cell, derefS, Cell.view, at0, at1, at3, at2, put1, put3, put2, hb, hd, h, hn, ix, hq, hc, dv, ds, readV, pow18]
      · simp [f7, execs, exec, ev, evs, evrs, evt, rdArg, rdPlace, Place.get, Place.set, Arg.get, getAll, Res.bind, Res.then, RS.seq, lift, prim, prim1, prim2, binD, cmpD, ixD, intD, lenP, lenD, absD, bindTo, fin, gc, DS.cell, derefS, Cell.view, at0, at1, at3, at2, put1, put3, put2, hb, hd, h, hn, ix, hq, hc, dv, ds, readV, pow18, m1, m2, m3, d97, d11, mixv]
    · have hq : cellv st = 0 := by unfold cellv; rw [if_neg hn]
      simp [f7, execs, exec, ev, evs, evrs, evt, rdArg, rdPlace, Place.get, Place.set, Arg.get, getAll, Res.bind, Res.then, RS.seq, lift, prim, prim1, prim2, binD, cmpD, ixD, intD, lenP, lenD, absD, bindTo, fin, gc, DS.cell, derefS, Cell.view, at0, at1, at3, at2, put1, put3, put2, hb, hd, h, hn, hq, dv, ds, readV, pow18, m1, m2, m3, d97, d11, mixv]

theorem okS_st (st : DS) : okS [st.cell] := by
  have h : ∀ (n : Nat) (l : List Int), unders n (l.map D.int) = true := fun n l => by
    induction l with
    | nil => rfl
    | cons a l ih => simp only [List.map_cons, unders, ih]; rfl
  simp [okS, DS.cell, Cell.under, unders, D.under, h]
theorem dv_nat (st : DS) {m : Nat} (h : 0 < m) : ∃ v : Nat, dv st m = (v : Int) ∧ v < m := by
  have h1 := dv_lo st (m := (m : Int)) (by omega)
  have h2 := dv_hi st (m := (m : Int)) (by omega)
  exact ⟨(dv st m).toNat, by omega, by omega⟩
/-- a draw -/
theorem draw (k : Nat) (st : DS) (m : Nat) (h : 0 < m) (h2 : m < 1073741824) : ∃ (v : Nat) (st' : DS), v < m ∧ Phi tb (k + 1) 7 [.ref 0, .int m] [st.cell] = .ok false (.int v) [st'.cell] := by
  obtain ⟨v, e, hv⟩ := dv_nat st h
  exact ⟨v, ds st m, hv, by rw [draw_ok k st (by omega) (by omega), e]⟩
theorem one_of (k : Nat) (st : DS) (l : List D) (h : 0 < l.length) (h2 : l.length < 1073741824) : ∃ (d : D) (st' : DS), d ∈ l ∧ Phi tb (k + 2) 8 [.ref 0, .lst l] [st.cell] = .ok false d [st'.cell] := by
  obtain ⟨v, st', hv, e⟩ := draw k st l.length h h2
  have e : (prog tb (k + 1)).call 7 [.ref 0, .int l.length] [st.cell] = .ok false (.int v) [st'.cell] := e
  have ha : atI l (v : Int) = some l[v] := by rw [atI_nat, List.getElem?_eq_getElem hv]
  refine ⟨l[v], st', List.getElem_mem hv, ?_⟩
  rw [phi_succ (fn := f8) rfl rfl (by decide)]
  simp [exec, execs, ev, evs, evo, evrs, evt, evtb, evts, evit, evb, rdArg, rdPlace, readV, Place.get, Place.set, Arg.get, getAll, Res.bind, Res.then, RS.seq, lift, prim, prim1, prim2, binD, cmpD, ixD, slD, lenP, lenD, intD, negD, bindTo, assign, assigns, fin, derefS, gc, fit_str, fit_int, D.eqv, truthD, Cell.view, isList, mutC, mrecv, mprim, mprim2, mprim3, augD, toCell, Option.bind, fromF, isiP, isiD, tupleD, listD, seqOf, noX, iterD, isSh, f8, e, ha]
theorem one_sign (k : Nat) (st : DS) (l : List Nat) (h : 0 < l.length) (h2 : l.length < 1073741824) : ∃ (c : Nat) (st' : DS), c ∈ l ∧ Phi tb (k + 2) 8 [.ref 0, .str l] [st.cell] = .ok false (.str [c]) [st'.cell] := by
  obtain ⟨v, st', hv, e⟩ := draw k st l.length h h2
  have e : (prog tb (k + 1)).call 7 [.ref 0, .int l.length] [st.cell] = .ok false (.int v) [st'.cell] := e
  have ha : atI l (v : Int) = some l[v] := by rw [atI_nat, List.getElem?_eq_getElem hv]
  refine ⟨l[v], st', List.getElem_mem hv, ?_⟩
  rw [phi_succ (fn := f8) rfl rfl (by decide)]
  simp [exec, execs, ev, evs, evo, evrs, evt, evtb, evts, evit, evb, rdArg, rdPlace, readV, Place.get, Place.set, Arg.get, getAll, Res.bind, Res.then, RS.seq, lift, prim, prim1, prim2, binD, cmpD, ixD, slD, lenP, lenD, intD, negD, bindTo, assign, assigns, fin, derefS, gc, fit_str, fit_int, D.eqv, truthD, Cell.view, isList, mutC, mrecv, mprim, mprim2, mprim3, augD, toCell, Option.bind, fromF, isiP, isiD, tupleD, listD, seqOf, noX, iterD, isSh, f8, e, ha]
/-! ### the same -/
theorem same_str (k : Nat) (S : List Cell) (x : List Nat) : Phi tb (k + 1) 10 [.str x, .str x] S = .ok false (.bl true) S := by
  rw [phi_succ (fn := f10) rfl rfl (by decide)]
  simp [exec, execs, ev, evs, evo, evrs, evt, evtb, evts, evit, evb, rdArg, rdPlace, readV, Place.get, Place.set, Arg.get, getAll, Res.bind, Res.then, RS.seq, lift, prim, prim1, prim2, binD, cmpD, ixD, slD, lenP, lenD, intD, negD, bindTo, assign, assigns, fin, derefS, gc, fit_str, fit_int, D.eqv, truthD, Cell.view, isList, mutC, mrecv, mprim, mprim2, mprim3, augD, toCell, Option.bind, fromF, isiP, isiD, tupleD, listD, seqOf, noX, iterD, isSh, f10]
theorem is_int (k : Nat) (S : List Cell) (z : Int) : Phi tb (k + 1) 9 [.int z] S = .ok false (.bl true) S := by
  rw [phi_succ (fn := f9) rfl rfl (by decide)]
  simp [exec, execs, ev, evs, evo, evrs, evt, evtb, evts, evit, evb, rdArg, rdPlace, readV, Place.get, Place.set, Arg.get, getAll, Res.bind, Res.then, RS.seq, lift, prim, prim1, prim2, binD, cmpD, ixD, slD, lenP, lenD, intD, negD, bindTo, assign, assigns, fin, derefS, gc, fit_str, fit_int, D.eqv, truthD, Cell.view, isList, mutC, mrecv, mprim, mprim2, mprim3, augD, toCell, Option.bind, fromF, isiP, isiD, tupleD, listD, seqOf, noX, iterD, isSh, f9]
theorem same_int (k : Nat) (S : List Cell) (z : Int) : Phi tb (k + 2) 10 [.int z, .int z] S = .ok false (.bl true) S := by
  rw [phi_succ (fn := f10) rfl rfl (by decide)]
  have e : (prog tb (k + 1)).call 9 [.int z] S = .ok false (.bl true) S := is_int k S z
  simp [exec, execs, ev, evs, evo, evrs, evt, evtb, evts, evit, evb, rdArg, rdPlace, readV, Place.get, Place.set, Arg.get, getAll, Res.bind, Res.then, RS.seq, lift, prim, prim1, prim2, binD, cmpD, ixD, slD, lenP, lenD, intD, negD, bindTo, assign, assigns, fin, derefS, gc, fit_str, fit_int, D.eqv, truthD, Cell.view, isList, mutC, mrecv, mprim, mprim2, mprim3, augD, toCell, Option.bind, fromF, isiP, isiD, tupleD, listD, seqOf, noX, iterD, isSh, f10, e]
noncomputable abbrev sturn (k : Nat) : D → Sta → Res (Option D) := cturn (prog tb k) (.v 2) [2] [] (.call 10 [(.pr .ix [(.v 0), (.v 2)]), (.pr .ix [(.v 1), (.v 2)])])
theorem sturn_ok (k : Nat) (S : List Cell) (l : List D) (i : Nat) (d : D) (hd : l[i]? = some d) (h : Phi tb k 10 [d, d] S = .ok false (.bl true) S) : sturn k (.int i) ⟨[.sh (.tup l), .sh (.tup l), .no], S⟩ = .ok (some (.bl true)) ⟨[.sh (.tup l), .sh (.tup l), .no], S⟩ := by
  have e : (prog tb k).call 10 [d, d] S = .ok false (.bl true) S := h
  have ha : atI l (i : Int) = some d := by rw [atI_nat]; exact hd
  simp [exec, execs, ev, evs, evo, evrs, evt, evtb, evts, evit, evb, rdArg, rdPlace, readV, Place.get, Place.set, Arg.get, getAll, Res.bind, Res.then, RS.seq, lift, prim, prim1, prim2, binD, cmpD, ixD, slD, lenP, lenD, intD, negD, bindTo, assign, assigns, fin, derefS, gc, fit_str, fit_int, D.eqv, truthD, Cell.view, isList, mutC, mrecv, mprim, mprim2, mprim3, augD, toCell, Option.bind, fromF, isiP, isiD, tupleD, listD, seqOf, noX, iterD, isSh, sturn, cturn, ha, e, wipeZ]
theorem scomp (k : Nat) (S : List Cell) (l : List D) (h : ∀ d ∈ l, Phi tb k 10 [d, d] S = .ok false (.bl true) S) (hl : l.length ≤ LIM) : ∀ (r i : Nat) (acc : List D), i + r = l.length → acc.length = i →
    compL (sturn k) (rangeL (i : Int) r) acc ⟨[.sh (.tup l), .sh (.tup l), .no], S⟩ = .ok (acc ++ List.replicate r (.bl true)) ⟨[.sh (.tup l), .sh (.tup l), .no], S⟩
  | 0, i, acc, _, _ => by simp [rangeL, compL]
  | r + 1, i, acc, hi, ha => by
    have hlt : i < l.length := by omega
    simp only [rangeL, compL]
    rw [sturn_ok k S l i l[i] (List.getElem?_eq_getElem hlt) (h _ (List.getElem_mem hlt))]
    simp only [Res.bind]
    rw [if_pos (by omega)]
    have e : (i : Int) + 1 = ((i + 1 : Nat) : Int) := by omega
    rw [e, scomp k S l h hl r (i + 1) (acc ++ [D.bl true]) (by omega) (by simp; omega)]
    simp [List.replicate_succ]
theorem allB_rep' : ∀ n : Nat, allB (List.replicate n (D.bl true)) = some true
  | 0 => rfl
  | n + 1 => by simp [List.replicate_succ, allB, allB_rep' n]
theorem same_tup (k : Nat) (S : List Cell) (l : List D) (h : ∀ d ∈ l, Phi tb k 10 [d, d] S = .ok false (.bl true) S) (hl : l.length ≤ LIM) : Phi tb (k + 1) 10 [.tup l, .tup l] S = .ok false (.bl true) S := by
  rw [phi_succ (fn := f10) rfl rfl (by decide)]
  have hc := scomp k S l h hl l.length 0 [] (by omega) rfl
  have hL : LIM = 16777216 := rfl
  have hr : rangeD [.int l.length] = some (rangeL 0 l.length) := by
    simp only [rangeD]
    rw [if_pos (by unfold RLIM; omega)]
    simp
  have he : evs (prog tb k) [.pr .len [.v 1]] ⟨[.sh (.tup l), .sh (.tup l), .no], S⟩ = .ok [.int l.length] ⟨[.sh (.tup l), .sh (.tup l), .no], S⟩ := by
    simp [exec, execs, ev, evs, evo, evrs, evt, evtb, evts, evit, evb, rdArg, rdPlace, readV, Place.get, Place.set, Arg.get, getAll, Res.bind, Res.then, RS.seq, lift, prim, prim1, prim2, binD, cmpD, ixD, slD, lenP, lenD, intD, negD, bindTo, assign, assigns, fin, derefS, gc, fit_str, fit_int, D.eqv, truthD, Cell.view, isList, mutC, mrecv, mprim, mprim2, mprim3, augD, toCell, Option.bind, fromF, isiP, isiD, tupleD, listD, seqOf, noX, iterD, isSh]
  have hcomp := ev_comp (P := prog tb k) (tg := .v 2) (vs := [2]) (it := .rng [.pr .len [.v 1]]) (ifs := []) (e := .call 10 [(.pr .ix [(.v 0), (.v 2)]), (.pr .ix [(.v 1), (.v 2)])]) (s := ⟨[.sh (.tup l), .sh (.tup l), .no], S⟩) (evit_rng he hr) (by simp [isSh]) hc
  have hall := ev_pr1 (P := prog tb k) (p := .allOf) (r := (false, .bl true)) (rd_of hcomp) (d := .lst (List.replicate l.length (.bl true))) rfl (by simp [prim1, allD, allB_rep'])
  have st1 : exec (prog tb k) (.ife (.bop false [(.not (.e (.pr (.isi .tuple) [(.v 0)]))), (.cmp .NotEq (.pr .len [(.v 0)]) (.pr .len [(.v 1)]))]) [(.ret (.lit (.bl false)))] []) ⟨[.sh (.tup l), .sh (.tup l), .no], S⟩ = .next ⟨[.sh (.tup l), .sh (.tup l), .no], S⟩ := by
    simp [exec, execs, ev, evs, evo, evrs, evt, evtb, evts, evit, evb, rdArg, rdPlace, readV, Place.get, Place.set, Arg.get, getAll, Res.bind, Res.then, RS.seq, lift, prim, prim1, prim2, binD, cmpD, ixD, slD, lenP, lenD, intD, negD, bindTo, assign, assigns, fin, derefS, gc, fit_str, fit_int, D.eqv, truthD, Cell.view, isList, mutC, mrecv, mprim, mprim2, mprim3, augD, toCell, Option.bind, fromF, isiP, isiD, tupleD, listD, seqOf, noX, iterD, isSh]
  have st2 := exec_if_true (P := prog tb k) (t := .e (.pr (.isi .tuple) [(.v 1)])) (b := []) (s := ⟨[.sh (.tup l), .sh (.tup l), .no], S⟩) (s1 := ⟨[.sh (.tup l), .sh (.tup l), .no], S⟩) (by simp [exec, execs, ev, evs, evo, evrs, evt, evtb, evts, evit, evb, rdArg, rdPlace, readV, Place.get, Place.set, Arg.get, getAll, Res.bind, Res.then, RS.seq, lift, prim, prim1, prim2, binD, cmpD, ixD, slD, lenP, lenD, intD, negD, bindTo, assign, assigns, fin, derefS, gc, fit_str, fit_int, D.eqv, truthD, Cell.view, isList, mutC, mrecv, mprim, mprim2, mprim3, augD, toCell, Option.bind, fromF, isiP, isiD, tupleD, listD, seqOf, noX, iterD, isSh]) ((seq_next st1).trans (one_stmt (exec_ret hall)))
  show fin S.length (execs (prog tb k) f10.body ⟨[.sh (.tup l), .sh (.tup l), .no], S⟩) = _
  unfold f10
  simp only
  rw [seq_ret st2]
  simp [fin, gc, backZ]
mutual
/-- lists are not too long -/
def wd : Dt → Prop
  | .int _ => True
  | .txt _ => True
  | .tup l => l.length ≤ LIM ∧ wds l
def wds : List Dt → Prop
  | [] => True
  | d :: r => wd d ∧ wds r
end
theorem wds_mem : ∀ {l : List Dt} {e : D}, e ∈ toDs l → wds l → ∃ d, e = toD d ∧ wd d ∧ hi d ≤ his l
  | x :: r, e, h, w => by
    simp only [toDs, List.mem_cons] at h
    simp only [wds] at w
    simp only [his]
    rcases h with h | h
    · exact ⟨x, h, w.1, by omega⟩
    · obtain ⟨d, h1, h2, h3⟩ := wds_mem h w.2
      exact ⟨d, h1, h2, by omega⟩
theorem same_D (S : List Cell) : ∀ (h k : Nat) (d : Dt), hi d ≤ h → wd d → Phi tb (k + h + 2) 10 [toD d, toD d] S = .ok false (.bl true) S
  | h, k, .int z, _, _ => same_int (k + h) S z
  | h, k, .txt x, _, _ => same_str (k + h + 1) S x
  | 0, k, .tup l, hh, _ => by simp [hi] at hh
  | h + 1, k, .tup l, hh, w => by
    simp only [hi] at hh
    simp only [wd] at w
    refine same_tup (k + h + 2) S (toDs l) (fun e he => ?_) (by rw [toDs_len]; exact w.1)
    obtain ⟨d, rfl, h1, h2⟩ := wds_mem he w.2
    exact same_D S h k d (by omega) h1
end K57

set_option Elab.async false
set_option linter.all false
set_option maxRecDepth 100000
set_option maxHeartbeats 4000000
set_option autoImplicit false
set_option exponentiation.threshold 50000
/-! k57, the plain law: drawn integers, texts, data. -/
namespace K57
open Z
/-! ### integers -/
def ist (st : DS) (m p : Int) (t : List Nat) (N : Nat) (s5 s6 : Slot) : Sta := ⟨[.sh (.ref 0), .sh (.int m), .sh (.int p), .sh (.str t), .sh (.int N), s5, s6], [st.cell]⟩
abbrev iB : List Z.S := [(.set 6 (.call 7 [(.v 0), (.lit (.int 10))])),
    (.ife (.cmp .Eq (.v 2) (.lit (.int 0))) [(.set 6 (.lit (.int 9)))] [(.ife (.cmp .Eq (.v 2) (.lit (.int 1))) [(.set 6 (.pr .intOf [(.pr (.cmp .Eq) [(.v 5), (.lit (.int 0))])]))] [])]),
    (.ife (.bop true [(.cmp .Eq (.v 5) (.lit (.int 0))), (.cmp .Eq (.v 6) (.lit (.int 0)))]) [(.set 6 (.pr .intOf [(.pr (.cmp .Gt) [(.v 1), (.lit (.int 1))])]))] []),
    (.set 3 (.pr (.bin .Add) [(.v 3), (.pr .ix [(.lit (.str [48, 49, 50, 51, 52, 53, 54, 55, 56, 57])), (.v 6)])])),
    (.set 4 (.pr (.bin .Add) [(.pr (.bin .Mult) [(.lit (.int 10)), (.v 4)]), (.v 6)]))]
theorem ix_dig (d : Nat) (h : d < 10) : atI [48, 49, 50, 51, 52, 53, 54, 55, 56, 57] (d : Int) = some (48 + d) := by
  rw [atI_nat]
  match d, h with
  | 0, _ => rfl
  | 1, _ => rfl
  | 2, _ => rfl
  | 3, _ => rfl
  | 4, _ => rfl
  | 5, _ => rfl
  | 6, _ => rfl
  | 7, _ => rfl
  | 8, _ => rfl
  | 9, _ => rfl
  | n + 10, h => omega
theorem iB_ok (k : Nat) (st : DS) (m p : Int) (t : List Nat) (N j : Nat) (s5 s6 : Slot) (ht : t.length ≤ 1000) : ∃ (d : Nat) (st' : DS), d < 10 ∧ (j = 0 → 1 < m → 0 < d) ∧
    fbody (prog tb (k + 1)) (.v 5) iB (.int j) (ist st m p t N s5 s6) = .next (ist st' m p (t ++ [48 + d]) (10 * N + d) (.sh (.int j)) (.sh (.int d))) := by
  obtain ⟨v, st', hv, e⟩ := draw k st 10 (by decide) (by decide)
  have e : (prog tb (k + 1)).call 7 [.ref 0, .int 10] [st.cell] = .ok false (.int v) [st'.cell] := e
  -- the digit that is taken
  have fin1 : ∀ (d0 : Nat), d0 < 10 → ∃ d : Nat, d < 10 ∧ (j = 0 → 1 < m → 0 < d) ∧ execs (prog tb (k + 1)) [(.ife (.bop true [(.cmp .Eq (.v 5) (.lit (.int 0))), (.cmp .Eq (.v 6) (.lit (.int 0)))]) [(.set 6 (.pr .intOf [(.pr (.cmp .Gt) [(.v 1), (.lit (.int 1))])]))] []), (.set 3 (.pr (.bin .Add) [(.v 3), (.pr .ix [(.lit (.str [48, 49, 50, 51, 52, 53, 54, 55, 56, 57])), (.v 6)])])), (.set 4 (.pr (.bin .Add) [(.pr (.bin .Mult) [(.lit (.int 10)), (.v 4)]), (.v 6)]))] (ist st' m p t N (.sh (.int j)) (.sh (.int d0))) = .next (ist st' m p (t ++ [48 + d]) (10 * N + d) (.sh (.int j)) (.sh (.int d))) := by
    intro d0 hd0
    have tail : ∀ d : Nat, d < 10 → execs (prog tb (k + 1)) [(.set 3 (.pr (.bin .Add) [(.v 3), (.pr .ix [(.lit (.str [48, 49, 50, 51, 52, 53, 54, 55, 56, 57])), (.v 6)])])), (.set 4 (.pr (.bin .Add) [(.pr (.bin .Mult) [(.lit (.int 10)), (.v 4)]), (.v 6)]))] (ist st' m p t N (.sh (.int j)) (.sh (.int d))) = .next (ist st' m p (t ++ [48 + d]) (10 * N + d) (.sh (.int j)) (.sh (.int d))) := by
      intro d hd
      have h1 : t.length + 1 ≤ LIM := Nat.le_trans (Nat.add_le_add_right ht 1) (by decide)
      have h2 : mulOk 10 (N : Int) = true := by simp [mulOk]
      have h3 := ix_dig d hd
      simp [exec, execs, ev, evs, evo, evrs, evt, evtb, evts, evit, evb, rdArg, rdPlace, readV, Place.get, Place.set, Arg.get, getAll, Res.bind, Res.then, RS.seq, lift, prim, prim1, prim2, binD, cmpD, ixD, slD, lenP, lenD, intD, negD, bindTo, assign, assigns, fin, derefS, gc, fit_str, fit_int, D.eqv, truthD, Cell.view, isList, mutC, mrecv, mprim, mprim2, mprim3, augD, toCell, Option.bind, fromF, isiP, isiD, tupleD, listD, seqOf, noX, iterD, isSh, ist, h1, h2, h3]
    by_cases q : j = 0 ∧ d0 = 0
    · obtain ⟨rfl, rfl⟩ := q
      by_cases hm : 1 < m
      · refine ⟨1, by decide, fun _ _ => by decide, ?_⟩
        have s1 : exec (prog tb (k + 1)) (.ife (.bop true [(.cmp .Eq (.v 5) (.lit (.int 0))), (.cmp .Eq (.v 6) (.lit (.int 0)))]) [(.set 6 (.pr .intOf [(.pr (.cmp .Gt) [(.v 1), (.lit (.int 1))])]))] []) (ist st' m p t N (.sh (.int (0 : Nat))) (.sh (.int (0 : Nat)))) = .next (ist st' m p t N (.sh (.int (0 : Nat))) (.sh (.int (1 : Nat)))) := by
          simp [exec, execs, ev, evs, evo, evrs, evt, evtb, evts, evit, evb, rdArg, rdPlace, readV, Place.get, Place.set, Arg.get, getAll, Res.bind, Res.then, RS.seq, lift, prim, prim1, prim2, binD, cmpD, ixD, slD, lenP, lenD, intD, negD, bindTo, assign, assigns, fin, derefS, gc, fit_str, fit_int, D.eqv, truthD, Cell.view, isList, mutC, mrecv, mprim, mprim2, mprim3, augD, toCell, Option.bind, fromF, isiP, isiD, tupleD, listD, seqOf, noX, iterD, isSh, ist, hm, b2i]
        rw [seq_next s1, tail 1 (by decide)]
      · refine ⟨0, by decide, fun _ h => absurd h hm, ?_⟩
        have s1 : exec (prog tb (k + 1)) (.ife (.bop true [(.cmp .Eq (.v 5) (.lit (.int 0))), (.cmp .Eq (.v 6) (.lit (.int 0)))]) [(.set 6 (.pr .intOf [(.pr (.cmp .Gt) [(.v 1), (.lit (.int 1))])]))] []) (ist st' m p t N (.sh (.int (0 : Nat))) (.sh (.int (0 : Nat)))) = .next (ist st' m p t N (.sh (.int (0 : Nat))) (.sh (.int (0 : Nat)))) := by
          simp [exec, execs, ev, evs, evo, evrs, evt, evtb, evts, evit, evb, rdArg, rdPlace, readV, Place.get, Place.set, Arg.get, getAll, Res.bind, Res.then, RS.seq, lift, prim, prim1, prim2, binD, cmpD, ixD, slD, lenP, lenD, intD, negD, bindTo, assign, assigns, fin, derefS, gc, fit_str, fit_int, D.eqv, truthD, Cell.view, isList, mutC, mrecv, mprim, mprim2, mprim3, augD, toCell, Option.bind, fromF, isiP, isiD, tupleD, listD, seqOf, noX, iterD, isSh, ist, hm, b2i]
        rw [seq_next s1, tail 0 (by decide)]
    · refine ⟨d0, hd0, fun h _ => by omega, ?_⟩
      have s1 : exec (prog tb (k + 1)) (.ife (.bop true [(.cmp .Eq (.v 5) (.lit (.int 0))), (.cmp .Eq (.v 6) (.lit (.int 0)))]) [(.set 6 (.pr .intOf [(.pr (.cmp .Gt) [(.v 1), (.lit (.int 1))])]))] []) (ist st' m p t N (.sh (.int j)) (.sh (.int d0))) = .next (ist st' m p t N (.sh (.int j)) (.sh (.int d0))) := by
        by_cases hj : j = 0
        · have h0 : d0 ≠ 0 := fun z => q ⟨hj, z⟩
          subst hj
          have : ¬ (d0 : Int) = 0 := by omega
          simp [exec, execs, ev, evs, evo, evrs, evt, evtb, evts, evit, evb, rdArg, rdPlace, readV, Place.get, Place.set, Arg.get, getAll, Res.bind, Res.then, RS.seq, lift, prim, prim1, prim2, binD, cmpD, ixD, slD, lenP, lenD, intD, negD, bindTo, assign, assigns, fin, derefS, gc, fit_str, fit_int, D.eqv, truthD, Cell.view, isList, mutC, mrecv, mprim, mprim2, mprim3, augD, toCell, Option.bind, fromF, isiP, isiD, tupleD, listD, seqOf, noX, iterD, isSh, ist, this, h0]
        · have : ¬ (j : Int) = 0 := by omega
          simp [exec, execs, ev, evs, evo, evrs, evt, evtb, evts, evit, evb, rdArg, rdPlace, readV, Place.get, Place.set, Arg.get, getAll, Res.bind, Res.then, RS.seq, lift, prim, prim1, prim2, binD, cmpD, ixD, slD, lenP, lenD, intD, negD, bindTo, assign, assigns, fin, derefS, gc, fit_str, fit_int, D.eqv, truthD, Cell.view, isList, mutC, mrecv, mprim, mprim2, mprim3, augD, toCell, Option.bind, fromF, isiP, isiD, tupleD, listD, seqOf, noX, iterD, isSh, ist, this, hj]
      rw [seq_next s1, tail d0 hd0]
  have s1 : exec (prog tb (k + 1)) (.set 6 (.call 7 [(.v 0), (.lit (.int 10))])) (ist st m p t N (.sh (.int j)) s6) = .next (ist st' m p t N (.sh (.int j)) (.sh (.int v))) := by
    simp [exec, execs, ev, evs, evo, evrs, evt, evtb, evts, evit, evb, rdArg, rdPlace, readV, Place.get, Place.set, Arg.get, getAll, Res.bind, Res.then, RS.seq, lift, prim, prim1, prim2, binD, cmpD, ixD, slD, lenP, lenD, intD, negD, bindTo, assign, assigns, fin, derefS, gc, fit_str, fit_int, D.eqv, truthD, Cell.view, isList, mutC, mrecv, mprim, mprim2, mprim3, augD, toCell, Option.bind, fromF, isiP, isiD, tupleD, listD, seqOf, noX, iterD, isSh, ist, e]
  have s2 : ∃ d0 : Nat, d0 < 10 ∧ exec (prog tb (k + 1)) (.ife (.cmp .Eq (.v 2) (.lit (.int 0))) [(.set 6 (.lit (.int 9)))] [(.ife (.cmp .Eq (.v 2) (.lit (.int 1))) [(.set 6 (.pr .intOf [(.pr (.cmp .Eq) [(.v 5), (.lit (.int 0))])]))] [])]) (ist st' m p t N (.sh (.int j)) (.sh (.int v))) = .next (ist st' m p t N (.sh (.int j)) (.sh (.int d0))) := by
    by_cases p0 : p = 0
    · exact ⟨9, by decide, by simp [exec, execs, ev, evs, evo, evrs, evt, evtb, evts, evit, evb, rdArg, rdPlace, readV, Place.get, Place.set, Arg.get, getAll, Res.bind, Res.then, RS.seq, lift, prim, prim1, prim2, binD, cmpD, ixD, slD, lenP, lenD, intD, negD, bindTo, assign, assigns, fin, derefS, gc, fit_str, fit_int, D.eqv, truthD, Cell.view, isList, mutC, mrecv, mprim, mprim2, mprim3, augD, toCell, Option.bind, fromF, isiP, isiD, tupleD, listD, seqOf, noX, iterD, isSh, ist, p0]⟩
    · by_cases p1 : p = 1
      · by_cases hj : j = 0
        · exact ⟨1, by decide, by simp [exec, execs, ev, evs, evo, evrs, evt, evtb, evts, evit, evb, rdArg, rdPlace, readV, Place.get, Place.set, Arg.get, getAll, Res.bind, Res.then, RS.seq, lift, prim, prim1, prim2, binD, cmpD, ixD, slD, lenP, lenD, intD, negD, bindTo, assign, assigns, fin, derefS, gc, fit_str, fit_int, D.eqv, truthD, Cell.view, isList, mutC, mrecv, mprim, mprim2, mprim3, augD, toCell, Option.bind, fromF, isiP, isiD, tupleD, listD, seqOf, noX, iterD, isSh, ist, p1, hj, b2i]⟩
        · have : ¬ (j : Int) = 0 := by omega
          exact ⟨0, by decide, by simp [exec, execs, ev, evs, evo, evrs, evt, evtb, evts, evit, evb, rdArg, rdPlace, readV, Place.get, Place.set, Arg.get, getAll, Res.bind, Res.then, RS.seq, lift, prim, prim1, prim2, binD, cmpD, ixD, slD, lenP, lenD, intD, negD, bindTo, assign, assigns, fin, derefS, gc, fit_str, fit_int, D.eqv, truthD, Cell.view, isList, mutC, mrecv, mprim, mprim2, mprim3, augD, toCell, Option.bind, fromF, isiP, isiD, tupleD, listD, seqOf, noX, iterD, isSh, ist, p1, this, hj, b2i]⟩
      · exact ⟨v, hv, by simp [exec, execs, ev, evs, evo, evrs, evt, evtb, evts, evit, evb, rdArg, rdPlace, readV, Place.get, Place.set, Arg.get, getAll, Res.bind, Res.then, RS.seq, lift, prim, prim1, prim2, binD, cmpD, ixD, slD, lenP, lenD, intD, negD, bindTo, assign, assigns, fin, derefS, gc, fit_str, fit_int, D.eqv, truthD, Cell.view, isList, mutC, mrecv, mprim, mprim2, mprim3, augD, toCell, Option.bind, fromF, isiP, isiD, tupleD, listD, seqOf, noX, iterD, isSh, ist, p0, p1]⟩
  obtain ⟨d0, hd0, s2⟩ := s2
  obtain ⟨d, g1, g2, g3⟩ := fin1 d0 hd0
  refine ⟨d, st', g1, g2, ?_⟩
  have ea : assign (.v 5) (.int j) (ist st m p t N s5 s6).σ = some (ist st m p t N (.sh (.int j)) s6).σ := by simp [assign, ist]
  show (match assign (.v 5) (.int j) (ist st m p t N s5 s6).σ with
      | some σ' => execs (prog tb (k + 1)) iB { (ist st m p t N s5 s6) with σ := σ' }
      | none => .stuck) = _
  rw [ea]
  show execs (prog tb (k + 1)) iB (ist st m p t N (.sh (.int j)) s6) = _
  rw [seq_next s1, seq_next s2, g3]
theorem iloop (k : Nat) (m p : Int) : ∀ (r j : Nat) (st : DS) (t : List Nat) (N : Nat) (s5 s6 : Slot), t.length + r ≤ 1000 → t = digits N → 0 < N → N < 10 ^ t.length → 0 < j →
    ∃ (st' : DS) (t' : List Nat) (N' : Nat) (s5' s6' : Slot), forL (fbody (prog tb (k + 1)) (.v 5) iB) (rangeL (j : Int) r) (ist st m p t N s5 s6) = .next (ist st' m p t' N' s5' s6') ∧ t' = digits N' ∧ N' < 10 ^ (t.length + r)
  | 0, j, st, t, N, s5, s6, hl, ht, hN, hb, hj => ⟨st, t, N, s5, s6, rfl, ht, hb⟩
  | r + 1, j, st, t, N, s5, s6, hl, ht, hN, hb, hj => by
    obtain ⟨d, st', h1, h2, h3⟩ := iB_ok k st m p t N j s5 s6 (by omega)
    have hb2 : 10 * N + d < 10 ^ (t ++ [48 + d]).length := by
      rw [List.length_append, List.length_singleton, Nat.pow_succ]
      omega
    obtain ⟨st2, t2, N2, a, b, e1, e2, e3⟩ := iloop k m p r (j + 1) st' (t ++ [48 + d]) (10 * N + d) (.sh (.int j)) (.sh (.int d)) (by simp; omega) (by rw [ht, ← digits_snoc hN h1]) (by omega) hb2 (by omega)
    refine ⟨st2, t2, N2, a, b, ?_, e2, ?_⟩
    · simp only [rangeL, forL]
      rw [h3]
      have e : (j : Int) + 1 = ((j + 1 : Nat) : Int) := by omega
      rw [e]
      exact e1
    · have : (t ++ [48 + d]).length + r = t.length + (r + 1) := by simp; omega
      rw [← this]; exact e3
theorem iall (k : Nat) (st : DS) (m : Nat) (p : Int) (hm : 1 ≤ m) (hm2 : m ≤ 180) (s5 s6 : Slot) : ∃ (st' : DS) (N' : Nat) (s5' s6' : Slot), forL (fbody (prog tb (k + 1)) (.v 5) iB) (rangeL 0 m) (ist st m p [] 0 s5 s6) = .next (ist st' m p (digits N') N' s5' s6') ∧ N' < 10 ^ 180 := by
  obtain ⟨r, rfl⟩ : ∃ r, m = r + 1 := ⟨m - 1, by omega⟩
  obtain ⟨d, st', h1, h2, h3⟩ := iB_ok k st (r + 1 : Nat) p [] 0 0 s5 s6 (by decide)
  have e0 : digits (10 * 0 + d) = [48 + d] := by rw [Nat.mul_zero, Nat.zero_add, digits_lt10 h1]
  cases r with
  | zero =>
    refine ⟨st', 10 * 0 + d, .sh (.int (0 : Nat)), .sh (.int d), ?_, ?_⟩
    · simp only [rangeL, forL]
      have h3 := h3
      rw [show ((0 : Nat) : Int) = 0 from rfl] at h3
      rw [h3, e0]
      rfl
    · exact Nat.lt_of_lt_of_le (by omega : 10 * 0 + d < 10) (Nat.pow_le_pow_right (n := 10) (i := 1) (by decide) (by decide))
  | succ r =>
    have hd := h2 rfl (by omega)
    obtain ⟨st2, t2, N2, a, b, e1, e2, e3⟩ := iloop k (r + 1 + 1 : Nat) p (r + 1) 1 st' [48 + d] (10 * 0 + d) (.sh (.int (0 : Nat))) (.sh (.int d)) (by simp; omega) e0.symm (by omega) (by simp; omega) (by decide)
    refine ⟨st2, N2, a, b, ?_, Nat.lt_of_lt_of_le e3 (Nat.pow_le_pow_right (by decide) (by simp; omega))⟩
    rw [show rangeL 0 (r + 1 + 1) = .int 0 :: rangeL (0 + 1) (r + 1) from rfl]
    simp only [forL]
    rw [show ((0 : Nat) : Int) = 0 from rfl] at h3
    rw [h3]
    simp only
    rw [show ((0 : Int) + 1) = ((1 : Nat) : Int) from rfl, ← e2]
    exact e1
theorem int_drawn (k : Nat) (st : DS) : ∃ (z : Int) (st' : DS), z.natAbs < 10 ^ 180 ∧ Phi tb (k + 2) 11 [.ref 0] [st.cell] = .ok false (.tup [.int z, .str (wi z)]) [st'.cell] := by
  obtain ⟨v1, st1, hv1, e1⟩ := draw k st 180 (by decide) (by decide)
  obtain ⟨v2, st2, hv2, e2⟩ := draw k st1 7 (by decide) (by decide)
  obtain ⟨v3, st3, hv3, e3⟩ := draw k st2 4 (by decide) (by decide)
  have e1 : (prog tb (k + 1)).call 7 [.ref 0, .int 180] [st.cell] = .ok false (.int v1) [st1.cell] := e1
  have e2 : (prog tb (k + 1)).call 7 [.ref 0, .int 7] [st1.cell] = .ok false (.int v2) [st2.cell] := e2
  have e3 : (prog tb (k + 1)).call 7 [.ref 0, .int 4] [st2.cell] = .ok false (.int v3) [st3.cell] := e3
  obtain ⟨m, hm1, hm2, hm⟩ : ∃ m : Nat, 1 ≤ m ∧ m ≤ 180 ∧ atI [D.int 1, .int 2, .int 5, .int 63, .int 64, .int 65, .int (1 + (v1 : Int))] (v2 : Int) = some (.int m) := by
    rw [atI_nat]
    match v2, hv2 with
    | 0, _ => exact ⟨1, by decide, by decide, rfl⟩
    | 1, _ => exact ⟨2, by decide, by decide, rfl⟩
    | 2, _ => exact ⟨5, by decide, by decide, rfl⟩
    | 3, _ => exact ⟨63, by decide, by decide, rfl⟩
    | 4, _ => exact ⟨64, by decide, by decide, rfl⟩
    | 5, _ => exact ⟨65, by decide, by decide, rfl⟩
    | 6, _ => exact ⟨1 + v1, by omega, by omega, by simp⟩
    | n + 7, h => omega
  obtain ⟨st4, N, a, b, e4, hN⟩ := iall k st3 m v3 hm1 hm2 .no .no
  obtain ⟨v5, st5, hv5, e5⟩ := draw k st4 3 (by decide) (by decide)
  have e5 : (prog tb (k + 1)).call 7 [.ref 0, .int 3] [st4.cell] = .ok false (.int v5) [st5.cell] := e5
  have s1 : exec (prog tb (k + 1)) (.set 1 (.pr .ix [(.lst [(.lit (.int 1)), (.lit (.int 2)), (.lit (.int 5)), (.lit (.int 63)), (.lit (.int 64)), (.lit (.int 65)), (.pr (.bin .Add) [(.lit (.int 1)), (.call 7 [(.v 0), (.lit (.int 180))])])]), (.call 7 [(.v 0), (.lit (.int 7))])])) ⟨[.sh (.ref 0), .no, .no, .no, .no, .no, .no], [st.cell]⟩ = .next ⟨[.sh (.ref 0), .sh (.int m), .no, .no, .no, .no, .no], [st2.cell]⟩ := by
    simp [exec, execs, ev, evs, evo, evrs, evt, evtb, evts, evit, evb, rdArg, rdPlace, readV, Place.get, Place.set, Arg.get, getAll, Res.bind, Res.then, RS.seq, lift, prim, prim1, prim2, binD, cmpD, ixD, slD, lenP, lenD, intD, negD, bindTo, assign, assigns, fin, derefS, gc, fit_str, fit_int, D.eqv, truthD, Cell.view, isList, mutC, mrecv, mprim, mprim2, mprim3, augD, toCell, Option.bind, fromF, isiP, isiD, tupleD, listD, seqOf, noX, iterD, isSh, e1, e2, hm, LIM]
  have s2 : execs (prog tb (k + 1)) [(.set 2 (.call 7 [(.v 0), (.lit (.int 4))])), (.set 3 (.lit (.str []))), (.set 4 (.lit (.int 0)))] ⟨[.sh (.ref 0), .sh (.int m), .no, .no, .no, .no, .no], [st2.cell]⟩ = .next (ist st3 m v3 [] 0 .no .no) := by
    simp [exec, execs, ev, evs, evo, evrs, evt, evtb, evts, evit, evb, rdArg, rdPlace, readV, Place.get, Place.set, Arg.get, getAll, Res.bind, Res.then, RS.seq, lift, prim, prim1, prim2, binD, cmpD, ixD, slD, lenP, lenD, intD, negD, bindTo, assign, assigns, fin, derefS, gc, fit_str, fit_int, D.eqv, truthD, Cell.view, isList, mutC, mrecv, mprim, mprim2, mprim3, augD, toCell, Option.bind, fromF, isiP, isiD, tupleD, listD, seqOf, noX, iterD, isSh, e3, ist]
  have s3 : exec (prog tb (k + 1)) (.fr (.v 5) (.rng [(.v 1)]) iB) (ist st3 m v3 [] 0 .no .no) = .next (ist st4 m v3 (digits N) N a b) := by
    refine (exec_fr (evit_rng (ds := [.int m]) (by simp [exec, execs, ev, evs, evo, evrs, evt, evtb, evts, evit, evb, rdArg, rdPlace, readV, Place.get, Place.set, Arg.get, getAll, Res.bind, Res.then, RS.seq, lift, prim, prim1, prim2, binD, cmpD, ixD, slD, lenP, lenD, intD, negD, bindTo, assign, assigns, fin, derefS, gc, fit_str, fit_int, D.eqv, truthD, Cell.view, isList, mutC, mrecv, mprim, mprim2, mprim3, augD, toCell, Option.bind, fromF, isiP, isiD, tupleD, listD, seqOf, noX, iterD, isSh, ist]) ?_)).trans e4
    simp only [rangeD]
    rw [if_pos (by unfold RLIM; omega)]
    simp
  have hlen : 1 + (digits N).length ≤ LIM := Nat.le_trans (Nat.add_le_add_left (digits_len (by decide) hN) 1) (by decide)
  have s4 : ∃ (z : Int) (st' : DS) (s' : Sta), z.natAbs < 10 ^ 180 ∧ s'.S = [st'.cell] ∧ execs (prog tb (k + 1)) [(.ife (.bop true [(.cmp .Gt (.v 4) (.lit (.int 0))), (.cmp .Eq (.call 7 [(.v 0), (.lit (.int 3))]) (.lit (.int 0)))]) [(.ret (.tup [(.pr .neg [(.v 4)]), (.pr (.bin .Add) [(.lit (.str [45])), (.v 3)])]))] []), (.ret (.tup [(.v 4), (.v 3)]))] (ist st4 m v3 (digits N) N a b) = .ret false (.tup [.int z, .str (wi z)]) s' := by
    have wN : wi (N : Int) = digits N := by
      unfold wi
      rw [if_neg (by omega)]
      simp
    by_cases h0 : 0 < N
    · have h0' : (0 : Int) < (N : Int) := by omega
      by_cases h5 : v5 = 0
      · have wz : wi (-(N : Int)) = 45 :: digits N := by
          unfold wi
          rw [if_pos (by omega)]
          simp
        refine ⟨-(N : Int), st5, ist st5 m v3 (digits N) N a b, by simpa using hN, rfl, ?_⟩
        rw [wz]
        unfold LIM at hlen
        have hlen2 : (digits N).length + 1 ≤ 16777216 := by omega
        simp [exec, execs, ev, evs, evo, evrs, evt, evtb, evts, evit, evb, rdArg, rdPlace, readV, Place.get, Place.set, Arg.get, getAll, Res.bind, Res.then, RS.seq, lift, prim, prim1, prim2, binD, cmpD, ixD, slD, lenP, lenD, intD, negD, bindTo, assign, assigns, fin, derefS, gc, fit_str, fit_int, D.eqv, truthD, Cell.view, isList, mutC, mrecv, mprim, mprim2, mprim3, augD, toCell, Option.bind, fromF, isiP, isiD, tupleD, listD, seqOf, noX, iterD, isSh, ist, h0, h0', e5, h5, hlen, hlen2, LIM]
      · have h5' : ¬ (v5 : Int) = 0 := by omega
        refine ⟨N, st5, ist st5 m v3 (digits N) N a b, by simpa using hN, rfl, ?_⟩
        rw [wN]
        simp [exec, execs, ev, evs, evo, evrs, evt, evtb, evts, evit, evb, rdArg, rdPlace, readV, Place.get, Place.set, Arg.get, getAll, Res.bind, Res.then, RS.seq, lift, prim, prim1, prim2, binD, cmpD, ixD, slD, lenP, lenD, intD, negD, bindTo, assign, assigns, fin, derefS, gc, fit_str, fit_int, D.eqv, truthD, Cell.view, isList, mutC, mrecv, mprim, mprim2, mprim3, augD, toCell, Option.bind, fromF, isiP, isiD, tupleD, listD, seqOf, noX, iterD, isSh, ist, h0, h0', e5, h5, h5', LIM]
    · have h0' : N = 0 := by omega
      refine ⟨N, st4, ist st4 m v3 (digits N) N a b, by simpa using hN, rfl, ?_⟩
      rw [wN]
      simp [exec, execs, ev, evs, evo, evrs, evt, evtb, evts, evit, evb, rdArg, rdPlace, readV, Place.get, Place.set, Arg.get, getAll, Res.bind, Res.then, RS.seq, lift, prim, prim1, prim2, binD, cmpD, ixD, slD, lenP, lenD, intD, negD, bindTo, assign, assigns, fin, derefS, gc, fit_str, fit_int, D.eqv, truthD, Cell.view, isList, mutC, mrecv, mprim, mprim2, mprim3, augD, toCell, Option.bind, fromF, isiP, isiD, tupleD, listD, seqOf, noX, iterD, isSh, ist, h0', LIM]
  obtain ⟨z, st', s', hz, hs, s4⟩ := s4
  refine ⟨z, st', hz, ?_⟩
  rw [phi_succ (fn := f11) rfl rfl (by decide)]
  show fin 1 (execs (prog tb (k + 1)) f11.body ⟨[.sh (.ref 0), .no, .no, .no, .no, .no, .no], [st.cell]⟩) = _
  have app : ∀ (xs ys : List Z.S) (s s1 : Sta), execs (prog tb (k + 1)) xs s = .next s1 → execs (prog tb (k + 1)) (xs ++ ys) s = execs (prog tb (k + 1)) ys s1 := execs_app
  show fin 1 (execs (prog tb (k + 1)) ((.set 1 (.pr .ix [(.lst [(.lit (.int 1)), (.lit (.int 2)), (.lit (.int 5)), (.lit (.int 63)), (.lit (.int 64)), (.lit (.int 65)), (.pr (.bin .Add) [(.lit (.int 1)), (.call 7 [(.v 0), (.lit (.int 180))])])]), (.call 7 [(.v 0), (.lit (.int 7))])])) :: ([(.set 2 (.call 7 [(.v 0), (.lit (.int 4))])), (.set 3 (.lit (.str []))), (.set 4 (.lit (.int 0)))] ++ ((.fr (.v 5) (.rng [(.v 1)]) iB) :: [(.ife (.bop true [(.cmp .Gt (.v 4) (.lit (.int 0))), (.cmp .Eq (.call 7 [(.v 0), (.lit (.int 3))]) (.lit (.int 0)))]) [(.ret (.tup [(.pr .neg [(.v 4)]), (.pr (.bin .Add) [(.lit (.str [45])), (.v 3)])]))] []), (.ret (.tup [(.v 4), (.v 3)]))]))) ⟨[.sh (.ref 0), .no, .no, .no, .no, .no, .no], [st.cell]⟩) = _
  rw [seq_next s1, app _ _ _ _ s2, seq_next s3, s4]
  simp only [fin]
  rw [hs]
  rfl
end K57

set_option Elab.async false
set_option linter.all false
set_option maxRecDepth 100000
set_option maxHeartbeats 4000000
set_option autoImplicit false
set_option exponentiation.threshold 50000
/-! k57, the plain law: drawn texts and data. -/
namespace K57
open Z
abbrev sgs : List Nat := [32, 33, 35, 36, 38, 40, 41, 42, 43, 44, 45, 46, 47, 48, 49, 57, 58, 59, 60, 61, 62, 63, 64, 65, 90, 91, 93, 94, 95, 97, 122, 123, 124, 125, 126]
noncomputable abbrev tturn (k : Nat) : D → Sta → Res (Option D) := cturn (prog tb k) (.v 3) [3] [] (.call 8 [(.v 0), (.v 1)])
def tst (st : DS) : Sta := ⟨[.sh (.ref 0), .sh (.str sgs), .no, .no], [st.cell]⟩
theorem tcomp (k : Nat) : ∀ (r : Nat) (j : Int) (acc : List D) (st : DS), acc.length + r ≤ 1000 → ∃ (xs : List Nat) (st' : DS), xs.length = r ∧ pl xs = true ∧ compL (tturn (k + 2)) (rangeL j r) acc (tst st) = .ok (acc ++ xs.map fun c => .str [c]) (tst st')
  | 0, j, acc, st, _ => ⟨[], st, rfl, rfl, by simp [rangeL, compL]⟩
  | r + 1, j, acc, st, hl => by
    obtain ⟨c, st1, hc, e⟩ := one_sign k st sgs (by decide) (by decide)
    have e : (prog tb (k + 2)).call 8 [.ref 0, .str sgs] [st.cell] = .ok false (.str [c]) [st1.cell] := e
    have hp : plc c = true := by
      have : ∀ c ∈ sgs, plc c = true := by decide
      exact this c hc
    have ht : tturn (k + 2) (.int j) (tst st) = .ok (some (.str [c])) (tst st1) := by
      generalize hS : (D.str sgs) = q at e
      simp only [tst, hS]
      simp [exec, execs, ev, evs, evo, evrs, evt, evtb, evts, evit, evb, rdArg, rdPlace, readV, Place.get, Place.set, Arg.get, getAll, Res.bind, Res.then, RS.seq, lift, prim, prim1, prim2, binD, cmpD, ixD, slD, lenP, lenD, intD, negD, bindTo, assign, assigns, fin, derefS, gc, fit_str, fit_int, D.eqv, truthD, Cell.view, isList, mutC, mrecv, mprim, mprim2, mprim3, augD, toCell, Option.bind, fromF, isiP, isiD, tupleD, listD, seqOf, noX, iterD, isSh, tturn, cturn, e, wipeZ]
    obtain ⟨xs, st2, h1, h2, h3⟩ := tcomp k r (j + 1) (acc ++ [D.str [c]]) st1 (by simp; omega)
    refine ⟨c :: xs, st2, by simp [h1], by simp only [pl, List.all_cons, Bool.and_eq_true]; exact ⟨hp, h2⟩, ?_⟩
    have hL : acc.length < LIM := Nat.lt_of_le_of_lt (by omega : acc.length ≤ 1000) (by decide)
    simp only [rangeL, compL, ht, Res.bind]
    rw [if_pos hL, h3]
    simp
theorem txt_drawn (k : Nat) (st : DS) : ∃ (x : List Nat) (st' : DS), x.length ≤ 5 ∧ pl x = true ∧ Phi tb (k + 3) 12 [.ref 0] [st.cell] = .ok false (.tup [.str x, .str (wr (.txt x))]) [st'.cell] := by
  obtain ⟨v1, st1, hv1, e1⟩ := draw (k + 1) st 6 (by decide) (by decide)
  have e1 : (prog tb (k + 2)).call 7 [.ref 0, .int 6] [st.cell] = .ok false (.int v1) [st1.cell] := e1
  obtain ⟨x, st2, h1, h2, h3⟩ := tcomp k v1 0 [] st1 (by simp; omega)
  refine ⟨x, st2, by omega, h2, ?_⟩
  rw [phi_succ (fn := f12) rfl rfl (by decide)]
  show fin 1 (execs (prog tb (k + 2)) f12.body ⟨[.sh (.ref 0), .no, .no, .no], [st.cell]⟩) = _
  have s1 : exec (prog tb (k + 2)) (.set 1 (.lit (.str sgs))) ⟨[.sh (.ref 0), .no, .no, .no], [st.cell]⟩ = .next (tst st) := by
    simp [exec, execs, ev, evs, evo, evrs, evt, evtb, evts, evit, evb, rdArg, rdPlace, readV, Place.get, Place.set, Arg.get, getAll, Res.bind, Res.then, RS.seq, lift, prim, prim1, prim2, binD, cmpD, ixD, slD, lenP, lenD, intD, negD, bindTo, assign, assigns, fin, derefS, gc, fit_str, fit_int, D.eqv, truthD, Cell.view, isList, mutC, mrecv, mprim, mprim2, mprim3, augD, toCell, Option.bind, fromF, isiP, isiD, tupleD, listD, seqOf, noX, iterD, isSh, tst]
  have he : evs (prog tb (k + 2)) [.call 7 [(.v 0), (.lit (.int 6))]] (tst st) = .ok [.int v1] (tst st1) := by
    simp [exec, execs, ev, evs, evo, evrs, evt, evtb, evts, evit, evb, rdArg, rdPlace, readV, Place.get, Place.set, Arg.get, getAll, Res.bind, Res.then, RS.seq, lift, prim, prim1, prim2, binD, cmpD, ixD, slD, lenP, lenD, intD, negD, bindTo, assign, assigns, fin, derefS, gc, fit_str, fit_int, D.eqv, truthD, Cell.view, isList, mutC, mrecv, mprim, mprim2, mprim3, augD, toCell, Option.bind, fromF, isiP, isiD, tupleD, listD, seqOf, noX, iterD, isSh, tst, e1]
  have hr : rangeD [.int v1] = some (rangeL 0 v1) := by
    simp only [rangeD]
    rw [if_pos (by unfold RLIM; omega)]
    simp
  have hc := ev_comp (P := prog tb (k + 2)) (tg := .v 3) (vs := [3]) (it := .rng [.call 7 [(.v 0), (.lit (.int 6))]]) (ifs := []) (e := .call 8 [(.v 0), (.v 1)]) (s := tst st) (evit_rng he hr) (by simp [isSh, tst]) h3
  have hb : (⟨backZ (tst st1).σ (tst st2).σ [3], (tst st2).S⟩ : Sta) = tst st2 := by simp [tst, backZ]
  have es : strsOf ([] ++ x.map fun c => D.str [c]) = some (x.map fun c => [c]) := by
    have := strsOf_str (x.map fun c => [c])
    simpa [Function.comp_def] using this
  have ej : joinL [] (x.map fun c => [c]) = x := by
    rw [joinL_nil]
    clear h1 h2 h3 hc es
    induction x with
    | nil => rfl
    | cons a x ih => simp [ih]
  have el : joinLen [] (x.map fun c => [c]) ≤ LIM := by
    have hx : x.length ≤ 5 := by omega
    rw [joinLen_nil]
    have e : (x.map fun c => [c]).flatten.length = x.length := by
      have := congrArg List.length ej
      rw [joinL_nil] at this
      exact this
    rw [e]
    exact Nat.le_trans hx (by decide)
  have hj := ev_mp1 (P := prog tb (k + 2)) (m := .join) (o := .lit (.str [])) (r := (false, .str x)) (x := .val (.str [])) (d := .str []) (d' := .str []) (s := tst st) (s1 := tst st) (by simp [exec, execs, ev, evs, evo, evrs, evt, evtb, evts, evit, evb, rdArg, rdPlace, readV, Place.get, Place.set, Arg.get, getAll, Res.bind, Res.then, RS.seq, lift, prim, prim1, prim2, binD, cmpD, ixD, slD, lenP, lenD, intD, negD, bindTo, assign, assigns, fin, derefS, gc, fit_str, fit_int, D.eqv, truthD, Cell.view, isList, mutC, mrecv, mprim, mprim2, mprim3, augD, toCell, Option.bind, fromF, isiP, isiD, tupleD, listD, seqOf, noX, iterD, isSh]) rfl rfl (rd_of hc) rfl rfl (by simp only [mprim2, joinD, seqOf]; rw [es]; simp only; rw [if_pos el, ej])
  rw [hb] at hj
  have s2 := exec_set (i := 2) hj
  have s2 : exec (prog tb (k + 2)) (.set 2 (.mp .join (.lit (.str [])) [.comp (.v 3) [3] (.rng [.call 7 [(.v 0), (.lit (.int 6))]]) [] (.call 8 [(.v 0), (.v 1)])])) (tst st) = .next ⟨[.sh (.ref 0), .sh (.str sgs), .sh (.str x), .no], [st2.cell]⟩ := by
    rw [s2]
    simp [exec, execs, ev, evs, evo, evrs, evt, evtb, evts, evit, evb, rdArg, rdPlace, readV, Place.get, Place.set, Arg.get, getAll, Res.bind, Res.then, RS.seq, lift, prim, prim1, prim2, binD, cmpD, ixD, slD, lenP, lenD, intD, negD, bindTo, assign, assigns, fin, derefS, gc, fit_str, fit_int, D.eqv, truthD, Cell.view, isList, mutC, mrecv, mprim, mprim2, mprim3, augD, toCell, Option.bind, fromF, isiP, isiD, tupleD, listD, seqOf, noX, iterD, isSh, tst]
  unfold f12
  simp only
  rw [seq_next s1, seq_next s2]
  have hx : x.length ≤ 5 := by omega
  have hl1 : 1 + x.length ≤ LIM := Nat.le_trans (by omega : 1 + x.length ≤ 6) (by decide)
  have hl2 : x.length + 1 + 1 ≤ LIM := Nat.le_trans (by omega : x.length + 1 + 1 ≤ 7) (by decide)
  have hl3 : 2 ≤ LIM := by decide
  simp [exec, execs, ev, evs, evo, evrs, evt, evtb, evts, evit, evb, rdArg, rdPlace, readV, Place.get, Place.set, Arg.get, getAll, Res.bind, Res.then, RS.seq, lift, prim, prim1, prim2, binD, cmpD, ixD, slD, lenP, lenD, intD, negD, bindTo, assign, assigns, fin, derefS, gc, fit_str, fit_int, D.eqv, truthD, Cell.view, isList, mutC, mrecv, mprim, mprim2, mprim3, augD, toCell, Option.bind, fromF, isiP, isiD, tupleD, listD, seqOf, noX, iterD, isSh, hl1, hl2, hl3, wr]
/-! ### data -/
def bd : Nat → Nat
  | 0 => 200
  | n + 1 => 4 * (bd n + 2) + 4
theorem bd_ge : ∀ n, 200 ≤ bd n
  | 0 => Nat.le_refl _
  | n + 1 => by have := bd_ge n; unfold bd; omega
structure Dr (n : Nat) (d : Dt) : Prop where
  hi : hi d ≤ n
  pd : pd d
  wd : wd d
  gd : good d
  ln : (wr d).length ≤ bd n
  nl : nl 9700 (wr d) = true
theorem wi_len {z : Int} (h : z.natAbs < 10 ^ 180) : (wi z).length ≤ 181 := by
  have := digits_len (by decide) h
  unfold wi
  split
  · simp; omega
  · omega
theorem dr_int (n : Nat) {z : Int} (h : z.natAbs < 10 ^ 180) : Dr n (.int z) := by
  have hl := wi_len h
  have := bd_ge n
  exact ⟨Nat.zero_le _, trivial, trivial, Nat.lt_of_lt_of_le h (Nat.pow_le_pow_right (by decide) (by decide)), by simp only [wr]; omega, nl_short _ _ (by simp only [wr]; omega) (by simp only [wr]; omega)⟩
theorem dr_txt (n : Nat) {x : List Nat} (h : x.length ≤ 5) (hp : pl x = true) : Dr n (.txt x) := by
  have := bd_ge n
  have hl : (wr (.txt x)).length ≤ 7 := by simp [wr]; omega
  exact ⟨Nat.zero_le _, hp, trivial, trivial, by omega, nl_short _ _ (by omega) (by omega)⟩
theorem nl_join : ∀ {l : List Dt}, (∀ d ∈ l, nl 9700 (wr d) = true) → nl 9700 (joinL [44, 32] (wrs l)) = true
  | [], _ => rfl
  | [d], h => by simp only [wrs, joinL]; exact h d (by simp)
  | d :: e :: r, h => by
    have ih := nl_join (l := e :: r) fun x hx => h x (List.mem_cons_of_mem _ hx)
    have e1 : joinL [44, 32] (wrs (d :: e :: r)) = wr d ++ 44 :: ([] ++ 32 :: joinL [44, 32] (wrs (e :: r))) := by
      simp only [wrs, joinL]; simp
    rw [e1, nl_app _ _ _ _ (by decide), nl_app _ _ _ _ (by decide), ih, h d (by simp)]
    rfl
theorem his_le {n : Nat} : ∀ {l : List Dt}, (∀ d ∈ l, Dr n d) → his l ≤ n ∧ pds l ∧ wds l ∧ goods l ∧ joinLen [44, 32] (wrs l) ≤ l.length * (bd n + 2)
  | [], _ => ⟨Nat.zero_le _, trivial, trivial, trivial, by simp [wrs, joinLen]⟩
  | d :: r, h => by
    obtain ⟨a, b, c, e, f⟩ := his_le (l := r) fun x hx => h x (List.mem_cons_of_mem _ hx)
    have hd := h d (by simp)
    simp only [his, pds, wds, goods]
    refine ⟨by have := hd.hi; omega, ⟨hd.pd, b⟩, ⟨hd.wd, c⟩, ⟨hd.gd, e⟩, ?_⟩
    have ej : joinLen [44, 32] (wrs (d :: r)) = (wr d).length + 2 + joinLen [44, 32] (wrs r) := by simp [wrs, joinLen]
    have := hd.ln
    rw [ej, List.length_cons, Nat.add_mul, Nat.one_mul]
    omega
theorem joinL_le (sep : List Nat) (xs : List (List Nat)) : (joinL sep xs).length ≤ joinLen sep xs := by
  cases xs with
  | nil => simp [joinL]
  | cons x r => rw [joinLen_eq2 sep (x :: r) (by simp)]; omega
theorem dr_tup {n : Nat} {l : List Dt} (h : ∀ d ∈ l, Dr n d) (hl : l.length ≤ 4) : Dr (n + 1) (.tup l) := by
  obtain ⟨a, b, c, e, f⟩ := his_le h
  have hj := joinL_le [44, 32] (wrs l)
  have hm : l.length * (bd n + 2) ≤ 4 * (bd n + 2) := Nat.mul_le_mul_right _ hl
  refine ⟨by simp only [K57.hi]; omega, b, ⟨Nat.le_trans hl (by decide), c⟩, e, ?_, ?_⟩
  · simp only [wr, List.length_cons, List.length_append, List.length_nil, bd]
    omega
  · have e1 : wr (.tup l) = [] ++ 40 :: (joinL [44, 32] (wrs l) ++ 41 :: []) := by simp [wr]
    rw [e1, nl_app _ _ _ _ (by decide), nl_app _ _ _ _ (by decide), nl_join fun d hd => (h d hd).nl]
    rfl
/-! ### data drawn -/
def pr2 (d : Dt) : D := .tup [toD d, .str (wr d)]
noncomputable abbrev rturn (k : Nat) : D → Sta → Res (Option D) := cturn (prog tb k) (.v 4) [4] [] (.call 13 [(.v 0), (.pr (.bin .Sub) [(.v 1), (.lit (.int 1))])])
def rst0 (st : DS) (n : Nat) (p : Int) : Sta := ⟨[.sh (.ref 0), .sh (.int n), .sh (.int p), .no, .no, .no, .no], [st.cell]⟩
theorem rcomp (k n : Nat) (p : Int) (h : ∀ st : DS, ∃ (d : Dt) (st' : DS), Dr n d ∧ Phi tb k 13 [.ref 0, .int n] [st.cell] = .ok false (pr2 d) [st'.cell]) : ∀ (r : Nat) (j : Int) (acc : List D) (st : DS), acc.length + r ≤ 1000 →
    ∃ (l : List Dt) (st' : DS), l.length = r ∧ (∀ d ∈ l, Dr n d) ∧ compL (rturn k) (rangeL j r) acc (rst0 st (n + 1) p) = .ok (acc ++ l.map pr2) (rst0 st' (n + 1) p)
  | 0, j, acc, st, _ => ⟨[], st, rfl, by simp, by simp [rangeL, compL]⟩
  | r + 1, j, acc, st, hl => by
    obtain ⟨d, st1, hd, e⟩ := h st
    have e : (prog tb k).call 13 [.ref 0, .int n] [st.cell] = .ok false (pr2 d) [st1.cell] := e
    have en : ((n + 1 : Nat) : Int) - 1 = (n : Int) := by omega
    have ht : rturn k (.int j) (rst0 st (n + 1) p) = .ok (some (pr2 d)) (rst0 st1 (n + 1) p) := by
      unfold rst0
      generalize ((n + 1 : Nat) : Int) = N at en
      generalize pr2 d = q at e
      simp [exec, execs, ev, evs, evo, evrs, evt, evtb, evts, evit, evb, rdArg, rdPlace, readV, Place.get, Place.set, Arg.get, getAll, Res.bind, Res.then, RS.seq, lift, prim, prim1, prim2, binD, cmpD, ixD, slD, lenP, lenD, intD, negD, bindTo, assign, assigns, fin, derefS, gc, fit_str, fit_int, D.eqv, truthD, Cell.view, isList, mutC, mrecv, mprim, mprim2, mprim3, augD, toCell, Option.bind, fromF, isiP, isiD, tupleD, listD, seqOf, noX, iterD, isSh, rturn, cturn, en, e, wipeZ]
    obtain ⟨l, st2, h1, h2, h3⟩ := rcomp k n p h r (j + 1) (acc ++ [pr2 d]) st1 (by simp; omega)
    refine ⟨d :: l, st2, by simp [h1], fun x hx => ?_, ?_⟩
    · rcases List.mem_cons.mp hx with e | e
      · subst e; exact hd
      · exact h2 x e
    · have hL : acc.length < LIM := Nat.lt_of_le_of_lt (by omega : acc.length ≤ 1000) (by decide)
      simp only [rangeL, compL, ht, Res.bind]
      rw [if_pos hL, h3]
      simp
theorem fst_comp (k : Nat) (s0 s1 s2 s3 : Slot) (S : List Cell) (l : List Dt) (hl : l.length ≤ LIM) : compL (cturn (prog tb k) (.tup [(.v 5), (.v 6)]) [5, 6] [] (.v 5)) (l.map pr2) [] ⟨[s0, s1, s2, s3, .no, .no, .no], S⟩ = .ok (toDs l) ⟨[s0, s1, s2, s3, .no, .no, .no], S⟩ := by
  have h := compL_map (turn := cturn (prog tb k) (.tup [(.v 5), (.v 6)]) [5, 6] [] (.v 5)) (f := fun d => match d with | .tup [a, _] => a | _ => .non) (s := ⟨[s0, s1, s2, s3, .no, .no, .no], S⟩) (l.map pr2) [] (fun d hd => by
    obtain ⟨x, _, rfl⟩ := List.mem_map.mp hd
    simp [exec, execs, ev, evs, evo, evrs, evt, evtb, evts, evit, evb, rdArg, rdPlace, readV, Place.get, Place.set, Arg.get, getAll, Res.bind, Res.then, RS.seq, lift, prim, prim1, prim2, binD, cmpD, ixD, slD, lenP, lenD, intD, negD, bindTo, assign, assigns, fin, derefS, gc, fit_str, fit_int, D.eqv, truthD, Cell.view, isList, mutC, mrecv, mprim, mprim2, mprim3, augD, toCell, Option.bind, fromF, isiP, isiD, tupleD, listD, seqOf, noX, iterD, isSh, cturn, pr2, wipeZ]) (by simpa using hl)
  rw [h]
  congr 1
  clear h hl
  induction l with
  | nil => rfl
  | cons a l ih => simp only [List.map_cons, List.nil_append, toDs] at ih ⊢; rw [ih]; rfl
theorem snd_comp (k : Nat) (s0 s1 s2 s3 : Slot) (S : List Cell) (l : List Dt) (hl : l.length ≤ LIM) : compL (cturn (prog tb k) (.tup [(.v 5), (.v 6)]) [5, 6] [] (.v 6)) (l.map pr2) [] ⟨[s0, s1, s2, s3, .no, .no, .no], S⟩ = .ok ((wrs l).map .str) ⟨[s0, s1, s2, s3, .no, .no, .no], S⟩ := by
  have h := compL_map (turn := cturn (prog tb k) (.tup [(.v 5), (.v 6)]) [5, 6] [] (.v 6)) (f := fun d => match d with | .tup [_, a] => a | _ => .non) (s := ⟨[s0, s1, s2, s3, .no, .no, .no], S⟩) (l.map pr2) [] (fun d hd => by
    obtain ⟨x, _, rfl⟩ := List.mem_map.mp hd
    simp [exec, execs, ev, evs, evo, evrs, evt, evtb, evts, evit, evb, rdArg, rdPlace, readV, Place.get, Place.set, Arg.get, getAll, Res.bind, Res.then, RS.seq, lift, prim, prim1, prim2, binD, cmpD, ixD, slD, lenP, lenD, intD, negD, bindTo, assign, assigns, fin, derefS, gc, fit_str, fit_int, D.eqv, truthD, Cell.view, isList, mutC, mrecv, mprim, mprim2, mprim3, augD, toCell, Option.bind, fromF, isiP, isiD, tupleD, listD, seqOf, noX, iterD, isSh, cturn, pr2, wipeZ]) (by simpa using hl)
  rw [h]
  congr 1
  clear h hl
  induction l with
  | nil => rfl
  | cons a l ih => simp only [List.map_cons, List.nil_append, wrs] at ih ⊢; rw [ih]; rfl
theorem bd_mono : ∀ {n m : Nat}, n ≤ m → bd n ≤ bd m
  | n, 0, h => by have : n = 0 := by omega
                  subst this; exact Nat.le_refl _
  | n, m + 1, h => by
    by_cases e : n = m + 1
    · subst e; exact Nat.le_refl _
    · have := bd_mono (n := n) (m := m) (by omega)
      have e2 : bd (m + 1) = 4 * (bd m + 2) + 4 := rfl
      omega
theorem data_drawn : ∀ (n k : Nat) (st : DS), n ≤ 6 → ∃ (d : Dt) (st' : DS), Dr n d ∧ Phi tb (k + n + 4) 13 [.ref 0, .int n] [st.cell] = .ok false (pr2 d) [st'.cell]
  | n, k, st, hn => by
    obtain ⟨v1, st1, hv1, e1⟩ := draw (k + n + 2) st 6 (by decide) (by decide)
    have e1 : (prog tb (k + n + 3)).call 7 [.ref 0, .int 6] [st.cell] = .ok false (.int v1) [st1.cell] := e1
    obtain ⟨z, st2, hz, e2⟩ := int_drawn (k + n + 1) st1
    have e2 : (prog tb (k + n + 3)).call 11 [.ref 0] [st1.cell] = .ok false (pr2 (.int z)) [st2.cell] := e2
    have s1 : exec (prog tb (k + n + 3)) (.set 2 (.call 7 [(.v 0), (.lit (.int 6))])) ⟨[.sh (.ref 0), .sh (.int n), .no, .no, .no, .no, .no], [st.cell]⟩ = .next (rst0 st1 n v1) := by
      simp [exec, execs, ev, evs, evo, evrs, evt, evtb, evts, evit, evb, rdArg, rdPlace, readV, Place.get, Place.set, Arg.get, getAll, Res.bind, Res.then, RS.seq, lift, prim, prim1, prim2, binD, cmpD, ixD, slD, lenP, lenD, intD, negD, bindTo, assign, assigns, fin, derefS, gc, fit_str, fit_int, D.eqv, truthD, Cell.view, isList, mutC, mrecv, mprim, mprim2, mprim3, augD, toCell, Option.bind, fromF, isiP, isiD, tupleD, listD, seqOf, noX, iterD, isSh, e1, rst0]
    have hstart : ∀ r, execs (prog tb (k + n + 3)) f13.body.tail (rst0 st1 n v1) = r → Phi tb (k + n + 4) 13 [.ref 0, .int n] [st.cell] = fin 1 r := fun r hr => by
      rw [phi_succ (fn := f13) rfl rfl (by decide)]
      show fin 1 (execs (prog tb (k + n + 3)) f13.body ⟨[.sh (.ref 0), .sh (.int n), .no, .no, .no, .no, .no], [st.cell]⟩) = _
      rw [← hr]
      unfold f13
      simp only [List.tail_cons]
      rw [seq_next s1]
    have viaInt : (n = 0 ∨ v1 = 0) → ∃ (d : Dt) (st' : DS), Dr n d ∧ Phi tb (k + n + 4) 13 [.ref 0, .int n] [st.cell] = .ok false (pr2 d) [st'.cell] := fun h => by
      refine ⟨.int z, st2, dr_int n hz, ?_⟩
      have t : evt (prog tb (k + n + 3)) (.bop false [(.cmp .Eq (.v 1) (.lit (.int 0))), (.cmp .Eq (.v 2) (.lit (.int 0)))]) (rst0 st1 n v1) = .ok true (rst0 st1 n v1) := by
        rcases h with h | h
        · simp [exec, execs, ev, evs, evo, evrs, evt, evtb, evts, evit, evb, rdArg, rdPlace, readV, Place.get, Place.set, Arg.get, getAll, Res.bind, Res.then, RS.seq, lift, prim, prim1, prim2, binD, cmpD, ixD, slD, lenP, lenD, intD, negD, bindTo, assign, assigns, fin, derefS, gc, fit_str, fit_int, D.eqv, truthD, Cell.view, isList, mutC, mrecv, mprim, mprim2, mprim3, augD, toCell, Option.bind, fromF, isiP, isiD, tupleD, listD, seqOf, noX, iterD, isSh, rst0, h]
        · by_cases h0 : (n : Int) = 0
          · simp [exec, execs, ev, evs, evo, evrs, evt, evtb, evts, evit, evb, rdArg, rdPlace, readV, Place.get, Place.set, Arg.get, getAll, Res.bind, Res.then, RS.seq, lift, prim, prim1, prim2, binD, cmpD, ixD, slD, lenP, lenD, intD, negD, bindTo, assign, assigns, fin, derefS, gc, fit_str, fit_int, D.eqv, truthD, Cell.view, isList, mutC, mrecv, mprim, mprim2, mprim3, augD, toCell, Option.bind, fromF, isiP, isiD, tupleD, listD, seqOf, noX, iterD, isSh, rst0, h0]
          · simp [exec, execs, ev, evs, evo, evrs, evt, evtb, evts, evit, evb, rdArg, rdPlace, readV, Place.get, Place.set, Arg.get, getAll, Res.bind, Res.then, RS.seq, lift, prim, prim1, prim2, binD, cmpD, ixD, slD, lenP, lenD, intD, negD, bindTo, assign, assigns, fin, derefS, gc, fit_str, fit_int, D.eqv, truthD, Cell.view, isList, mutC, mrecv, mprim, mprim2, mprim3, augD, toCell, Option.bind, fromF, isiP, isiD, tupleD, listD, seqOf, noX, iterD, isSh, rst0, h, h0]
      have s2 : exec (prog tb (k + n + 3)) (.ife (.bop false [(.cmp .Eq (.v 1) (.lit (.int 0))), (.cmp .Eq (.v 2) (.lit (.int 0)))]) [(.ret (.call 11 [(.v 0)]))] []) (rst0 st1 n v1) = .ret false (pr2 (.int z)) (rst0 st2 n v1) :=
        exec_if_true t (one_stmt (by
          unfold rst0
          generalize pr2 (.int z) = q at e2
          simp [exec, execs, ev, evs, evo, evrs, evt, evtb, evts, evit, evb, rdArg, rdPlace, readV, Place.get, Place.set, Arg.get, getAll, Res.bind, Res.then, RS.seq, lift, prim, prim1, prim2, binD, cmpD, ixD, slD, lenP, lenD, intD, negD, bindTo, assign, assigns, fin, derefS, gc, fit_str, fit_int, D.eqv, truthD, Cell.view, isList, mutC, mrecv, mprim, mprim2, mprim3, augD, toCell, Option.bind, fromF, isiP, isiD, tupleD, listD, seqOf, noX, iterD, isSh, e2]))
      rw [hstart _ (seq_ret s2)]
      rfl
    by_cases h0 : n = 0 ∨ v1 = 0
    · exact viaInt h0
    · have h0a : ¬ (n : Int) = 0 := by omega
      have h0b : ¬ (v1 : Int) = 0 := by omega
      have s2 : exec (prog tb (k + n + 3)) (.ife (.bop false [(.cmp .Eq (.v 1) (.lit (.int 0))), (.cmp .Eq (.v 2) (.lit (.int 0)))]) [(.ret (.call 11 [(.v 0)]))] []) (rst0 st1 n v1) = .next (rst0 st1 n v1) :=
        exec_if_false (s1 := rst0 st1 n v1) (by unfold rst0; generalize (n : Int) = N at *; generalize (v1 : Int) = V at *; simp [exec, execs, ev, evs, evo, evrs, evt, evtb, evts, evit, evb, rdArg, rdPlace, readV, Place.get, Place.set, Arg.get, getAll, Res.bind, Res.then, RS.seq, lift, prim, prim1, prim2, binD, cmpD, ixD, slD, lenP, lenD, intD, negD, bindTo, assign, assigns, fin, derefS, gc, fit_str, fit_int, D.eqv, truthD, Cell.view, isList, mutC, mrecv, mprim, mprim2, mprim3, augD, toCell, Option.bind, fromF, isiP, isiD, tupleD, listD, seqOf, noX, iterD, isSh, h0a, h0b]) execs_nil
      by_cases h1 : v1 = 1
      · obtain ⟨x, st3, hx, hp, e3⟩ := txt_drawn (k + n) st1
        have e3 : (prog tb (k + n + 3)).call 12 [.ref 0] [st1.cell] = .ok false (pr2 (.txt x)) [st3.cell] := e3
        refine ⟨.txt x, st3, dr_txt n hx hp, ?_⟩
        have s3 : exec (prog tb (k + n + 3)) (.ife (.cmp .Eq (.v 2) (.lit (.int 1))) [(.ret (.call 12 [(.v 0)]))] []) (rst0 st1 n v1) = .ret false (pr2 (.txt x)) (rst0 st3 n v1) :=
          exec_if_true (s1 := rst0 st1 n v1) (by simp [exec, execs, ev, evs, evo, evrs, evt, evtb, evts, evit, evb, rdArg, rdPlace, readV, Place.get, Place.set, Arg.get, getAll, Res.bind, Res.then, RS.seq, lift, prim, prim1, prim2, binD, cmpD, ixD, slD, lenP, lenD, intD, negD, bindTo, assign, assigns, fin, derefS, gc, fit_str, fit_int, D.eqv, truthD, Cell.view, isList, mutC, mrecv, mprim, mprim2, mprim3, augD, toCell, Option.bind, fromF, isiP, isiD, tupleD, listD, seqOf, noX, iterD, isSh, rst0, h1]) (one_stmt (by
            unfold rst0
            generalize pr2 (.txt x) = q at e3
            simp [exec, execs, ev, evs, evo, evrs, evt, evtb, evts, evit, evb, rdArg, rdPlace, readV, Place.get, Place.set, Arg.get, getAll, Res.bind, Res.then, RS.seq, lift, prim, prim1, prim2, binD, cmpD, ixD, slD, lenP, lenD, intD, negD, bindTo, assign, assigns, fin, derefS, gc, fit_str, fit_int, D.eqv, truthD, Cell.view, isList, mutC, mrecv, mprim, mprim2, mprim3, augD, toCell, Option.bind, fromF, isiP, isiD, tupleD, listD, seqOf, noX, iterD, isSh, e3]))
        rw [hstart _ ((seq_next s2).trans (seq_ret s3))]
        rfl
      · have h1' : ¬ (v1 : Int) = 1 := by omega
        have s3 : exec (prog tb (k + n + 3)) (.ife (.cmp .Eq (.v 2) (.lit (.int 1))) [(.ret (.call 12 [(.v 0)]))] []) (rst0 st1 n v1) = .next (rst0 st1 n v1) :=
          exec_if_false (s1 := rst0 st1 n v1) (by simp [exec, execs, ev, evs, evo, evrs, evt, evtb, evts, evit, evb, rdArg, rdPlace, readV, Place.get, Place.set, Arg.get, getAll, Res.bind, Res.then, RS.seq, lift, prim, prim1, prim2, binD, cmpD, ixD, slD, lenP, lenD, intD, negD, bindTo, assign, assigns, fin, derefS, gc, fit_str, fit_int, D.eqv, truthD, Cell.view, isList, mutC, mrecv, mprim, mprim2, mprim3, augD, toCell, Option.bind, fromF, isiP, isiD, tupleD, listD, seqOf, noX, iterD, isSh, rst0, h1']) execs_nil
        obtain ⟨m, rfl⟩ : ∃ m, n = m + 1 := ⟨n - 1, by omega⟩
        obtain ⟨v4, st4, hv4, e4⟩ := draw (k + (m + 1) + 2) st1 5 (by decide) (by decide)
        have e4 : (prog tb (k + (m + 1) + 3)).call 7 [.ref 0, .int 5] [st1.cell] = .ok false (.int v4) [st4.cell] := e4
        obtain ⟨l, st5, hl1, hl2, hl3⟩ := rcomp (k + m + 4) m v1 (fun st => data_drawn m k st (by omega)) v4 0 [] st4 (by simp; omega)
        have he : evs (prog tb (k + (m + 1) + 3)) [.call 7 [(.v 0), (.lit (.int 5))]] (rst0 st1 (m + 1 : Nat) v1) = .ok [.int v4] (rst0 st4 (m + 1 : Nat) v1) := by
          unfold rst0
          generalize ((m + 1 : Nat) : Int) = N
          simp [exec, execs, ev, evs, evo, evrs, evt, evtb, evts, evit, evb, rdArg, rdPlace, readV, Place.get, Place.set, Arg.get, getAll, Res.bind, Res.then, RS.seq, lift, prim, prim1, prim2, binD, cmpD, ixD, slD, lenP, lenD, intD, negD, bindTo, assign, assigns, fin, derefS, gc, fit_str, fit_int, D.eqv, truthD, Cell.view, isList, mutC, mrecv, mprim, mprim2, mprim3, augD, toCell, Option.bind, fromF, isiP, isiD, tupleD, listD, seqOf, noX, iterD, isSh, e4]
        have hr : rangeD [.int v4] = some (rangeL 0 v4) := by
          simp only [rangeD]
          rw [if_pos (by unfold RLIM; omega)]
          simp
        have hc := ev_comp (P := prog tb (k + (m + 1) + 3)) (tg := .v 4) (vs := [4]) (it := .rng [.call 7 [(.v 0), (.lit (.int 5))]]) (ifs := []) (e := .call 13 [(.v 0), (.pr (.bin .Sub) [(.v 1), (.lit (.int 1))])]) (s := rst0 st1 (m + 1 : Nat) v1) (evit_rng he hr) (by simp [isSh, rst0]) hl3
        have hb : (⟨backZ (rst0 st4 (m + 1 : Nat) v1).σ (rst0 st5 (m + 1 : Nat) v1).σ [4], (rst0 st5 (m + 1 : Nat) v1).S⟩ : Sta) = rst0 st5 (m + 1 : Nat) v1 := by simp [rst0, backZ]
        rw [hb] at hc
        have s4 := exec_set (i := 3) hc
        have hl4 : l.length ≤ 4 := by omega
        have hL : l.length ≤ LIM := Nat.le_trans hl4 (by decide)
        let q1 : Sta := ⟨[.sh (.ref 0), .sh (.int (m + 1 : Nat)), .sh (.int v1), .own (.L (l.map pr2)), .no, .no, .no], [st5.cell]⟩
        let q2 : Sta := ⟨[.sh (.ref 0), .sh (.int (m + 1 : Nat)), .sh (.int v1), .sh (.lst (l.map pr2)), .no, .no, .no], [st5.cell]⟩
        have s4 : exec (prog tb (k + (m + 1) + 3)) (.set 3 (.comp (.v 4) [4] (.rng [.call 7 [(.v 0), (.lit (.int 5))]]) [] (.call 13 [(.v 0), (.pr (.bin .Sub) [(.v 1), (.lit (.int 1))])]))) (rst0 st1 (m + 1 : Nat) v1) = .next q1 := by
          rw [s4]
          simp [rst0, bindTo, toCell, q1]
        have hd := dr_tup hl2 hl4
        have hlen : (wr (.tup l)).length ≤ LIM := Nat.le_trans hd.ln (Nat.le_trans (bd_mono hn) (by decide))
        have c1 := ev_comp (P := prog tb (k + (m + 1) + 3)) (tg := .tup [(.v 5), (.v 6)]) (vs := [5, 6]) (it := .seq (.v 3)) (ifs := []) (e := .v 5) (s := q1) (s1 := q2) (ds := l.map pr2) (by simp [evit, ev, readV, q1, q2, Res.bind, lift, iterD, Cell.view]) (by simp [isSh, q2]) (fst_comp _ (.sh (.ref 0)) (.sh (.int (m + 1 : Nat))) (.sh (.int v1)) (.sh (.lst (l.map pr2))) [st5.cell] l hL)
        have c1b : (⟨backZ q2.σ [.sh (.ref 0), .sh (.int (m + 1 : Nat)), .sh (.int v1), .sh (.lst (l.map pr2)), .no, .no, .no] [5, 6], [st5.cell]⟩ : Sta) = q2 := by simp [q2, backZ]
        have c1 : ev (prog tb (k + (m + 1) + 3)) (.comp (.tup [(.v 5), (.v 6)]) [5, 6] (.seq (.v 3)) [] (.v 5)) q1 = .ok (true, .lst (toDs l)) q2 := c1.trans (by rw [c1b])
        have c2 := ev_comp (P := prog tb (k + (m + 1) + 3)) (tg := .tup [(.v 5), (.v 6)]) (vs := [5, 6]) (it := .seq (.v 3)) (ifs := []) (e := .v 6) (s := q2) (s1 := q2) (ds := l.map pr2) (by simp [evit, ev, readV, q2, Res.bind, lift, iterD]) (by simp [isSh, q2]) (snd_comp _ (.sh (.ref 0)) (.sh (.int (m + 1 : Nat))) (.sh (.int v1)) (.sh (.lst (l.map pr2))) [st5.cell] l hL)
        have c2 : ev (prog tb (k + (m + 1) + 3)) (.comp (.tup [(.v 5), (.v 6)]) [5, 6] (.seq (.v 3)) [] (.v 6)) q2 = .ok (true, .lst ((wrs l).map .str)) q2 := c2.trans (by rw [c1b])
        have p1 := ev_pr1 (P := prog tb (k + (m + 1) + 3)) (p := .tupleOf) (r := (false, .tup (toDs l))) (rd_of c1) (d := .lst (toDs l)) rfl rfl
        have hjl := joinLen_le [44, 32] (wrs l)
        have hw : (wr (.tup l)).length = (joinL [44, 32] (wrs l)).length + 2 := by simp [wr]
        have hj : joinLen [44, 32] (wrs l) ≤ LIM := by
          have : ([44, 32] : List Nat).length = 2 := rfl
          omega
        have es := strsOf_str (wrs l)
        have hA : ([40] : List Nat).length + (joinL [44, 32] (wrs l)).length ≤ LIM := by
          have : ([40] : List Nat).length = 1 := rfl
          omega
        have hB : (40 :: joinL [44, 32] (wrs l)).length + ([41] : List Nat).length ≤ LIM := by
          have : ([41] : List Nat).length = 1 := rfl
          rw [List.length_cons]
          omega
        have g1 := ev_mp1 (P := prog tb (k + (m + 1) + 3)) (m := .join) (o := .lit (.str [44, 32])) (r := (false, .str (joinL [44, 32] (wrs l)))) (x := .val (.str [44, 32])) (d := .str [44, 32]) (d' := .str [44, 32]) (s := q2) (s1 := q2) (by simp [exec, execs, ev, evs, evo, evrs, evt, evtb, evts, evit, evb, rdArg, rdPlace, readV, Place.get, Place.set, Arg.get, getAll, Res.bind, Res.then, RS.seq, lift, prim, prim1, prim2, binD, cmpD, ixD, slD, lenP, lenD, intD, negD, bindTo, assign, assigns, fin, derefS, gc, fit_str, fit_int, D.eqv, truthD, Cell.view, isList, mutC, mrecv, mprim, mprim2, mprim3, augD, toCell, Option.bind, fromF, isiP, isiD, tupleD, listD, seqOf, noX, iterD, isSh]) rfl rfl (rd_of c2) rfl rfl (by simp [mprim2, joinD, seqOf, es, hj])
        have g2 := ev_pr2 (P := prog tb (k + (m + 1) + 3)) (p := .bin .Add) (a := .lit (.str [40])) (x := .val (.str [40])) (d := .str [40]) (r := (false, .str (40 :: joinL [44, 32] (wrs l)))) (s := q2) (s1 := q2) (by simp [exec, execs, ev, evs, evo, evrs, evt, evtb, evts, evit, evb, rdArg, rdPlace, readV, Place.get, Place.set, Arg.get, getAll, Res.bind, Res.then, RS.seq, lift, prim, prim1, prim2, binD, cmpD, ixD, slD, lenP, lenD, intD, negD, bindTo, assign, assigns, fin, derefS, gc, fit_str, fit_int, D.eqv, truthD, Cell.view, isList, mutC, mrecv, mprim, mprim2, mprim3, augD, toCell, Option.bind, fromF, isiP, isiD, tupleD, listD, seqOf, noX, iterD, isSh]) (rd_of g1) rfl rfl (by simp only [prim2, binD]; rw [if_pos hA]; rfl)
        have g3 := ev_pr2 (P := prog tb (k + (m + 1) + 3)) (p := .bin .Add) (b := .lit (.str [41])) (y := .val (.str [41])) (e := .str [41]) (r := (false, .str (wr (.tup l)))) (s := q2) (s2 := q2) (rd_of g2) (by simp [exec, execs, ev, evs, evo, evrs, evt, evtb, evts, evit, evb, rdArg, rdPlace, readV, Place.get, Place.set, Arg.get, getAll, Res.bind, Res.then, RS.seq, lift, prim, prim1, prim2, binD, cmpD, ixD, slD, lenP, lenD, intD, negD, bindTo, assign, assigns, fin, derefS, gc, fit_str, fit_int, D.eqv, truthD, Cell.view, isList, mutC, mrecv, mprim, mprim2, mprim3, augD, toCell, Option.bind, fromF, isiP, isiD, tupleD, listD, seqOf, noX, iterD, isSh]) rfl rfl (by simp only [prim2, binD]; rw [if_pos hB]; rfl)
        have s5 : exec (prog tb (k + (m + 1) + 3)) (.ret (.tup [(.pr .tupleOf [(.comp (.tup [(.v 5), (.v 6)]) [5, 6] (.seq (.v 3)) [] (.v 5))]), (.pr (.bin .Add) [(.pr (.bin .Add) [(.lit (.str [40])), (.mp .join (.lit (.str [44, 32])) [(.comp (.tup [(.v 5), (.v 6)]) [5, 6] (.seq (.v 3)) [] (.v 6))])]), (.lit (.str [41]))])])) q1 = .ret false (pr2 (.tup l)) q2 := by
          have e := ev_tup2 p1 g3
          exact exec_ret e
        refine ⟨.tup l, st5, hd, ?_⟩
        rw [hstart _ ((seq_next s2).trans ((seq_next s3).trans ((seq_next s4).trans (one_stmt s5))))]
        rfl
end K57

set_option Elab.async false
set_option linter.all false
set_option maxRecDepth 100000
set_option maxHeartbeats 4000000
set_option autoImplicit false
set_option exponentiation.threshold 50000
/-! k57, the plain law: what is refused. -/
namespace K57
open Z
theorem refused (k g : Nat) (S : List Cell) (x : List Nat) (h : Phi tb k g [.str x] S = .exn (.mk 1 []) S) : Phi tb (k + 1) 14 [.fn g, .str x] S = .ok false (.bl true) S := by
  have e : (prog tb k).call g [.str x] S = .exn (.mk 1 []) S := h
  have s1 : (prog tb k).sub 1 1 = true := rfl
  have s2 : (prog tb k).sub 1 0 = true := rfl
  rw [phi_succ (fn := f14) rfl rfl (by decide)]
  simp [exec, execs, ev, evs, evo, evrs, evt, evtb, evts, evit, evb, rdArg, rdPlace, readV, Place.get, Place.set, Arg.get, getAll, Res.bind, Res.then, RS.seq, lift, prim, prim1, prim2, binD, cmpD, ixD, slD, lenP, lenD, intD, negD, bindTo, assign, assigns, fin, derefS, gc, fit_str, fit_int, D.eqv, truthD, Cell.view, isList, mutC, mrecv, mprim, mprim2, mprim3, augD, toCell, Option.bind, fromF, isiP, isiD, tupleD, listD, seqOf, noX, iterD, isSh, f14, e, s1, s2, suiteD]
def bi (w : List Nat) : List (List Nat) := [[], [45], [45, 48], 43 :: w, 32 :: w, w ++ [32], [48, 48], 48 :: w, [45, 45, 49], [49, 45], w ++ [120], [97], [40, 41], w ++ [46, 48], [49, 32, 50], [49, 44, 50], [39, 49, 39], [40, 49, 41], [48, 120, 49], [49, 95, 48]]
theorem bad_ints (k : Nat) (S : List Cell) (w : List Nat) (h : w.length ≤ 200) : Phi tb (k + 1) 15 [.str w] S = .ok true (.lst ((bi w).map .str)) S := by
  rw [phi_succ (fn := f15) rfl rfl (by decide)]
  have h1 : 1 + w.length ≤ LIM := Nat.le_trans (by omega : 1 + w.length ≤ 1000) (by decide)
  have h2 : w.length + 1 ≤ LIM := by omega
  have h3 : w.length + 2 ≤ LIM := Nat.le_trans (by omega : w.length + 2 ≤ 1000) (by decide)
  have h4 : 13 ≤ LIM := by decide
  have h5 : 7 ≤ LIM := by decide
  have h6 : 20 ≤ LIM := by decide
  simp [exec, execs, ev, evs, evo, evrs, evt, evtb, evts, evit, evb, rdArg, rdPlace, readV, Place.get, Place.set, Arg.get, getAll, Res.bind, Res.then, RS.seq, lift, prim, prim1, prim2, binD, cmpD, ixD, slD, lenP, lenD, intD, negD, bindTo, assign, assigns, fin, derefS, gc, fit_str, fit_int, D.eqv, truthD, Cell.view, isList, mutC, mrecv, mprim, mprim2, mprim3, augD, toCell, Option.bind, fromF, isiP, isiD, tupleD, listD, seqOf, noX, iterD, isSh, f15, bi, h1, h2, h3, h4, h5, h6]
theorem bi_bad (z : Int) (hz : z.natAbs < 10 ^ 180) : ∀ x ∈ bi (wi z), okI x = false ∧ x.length ≤ 9700 := by
  have hl := wi_len hz
  intro x hx
  unfold bi at hx
  simp only [List.mem_cons, List.not_mem_nil, or_false] at hx
  rcases hx with h | h | h | h | h | h | h | h | h | h | h | h | h | h | h | h | h | h | h | h <;> subst h
  all_goals first
    | exact ⟨by decide, by decide⟩
    | exact ⟨ok_bad (c := 43) (List.mem_cons_self) (by decide) (by decide), by simp; omega⟩
    | exact ⟨ok_bad (c := 32) (List.mem_cons_self) (by decide) (by decide), by simp; omega⟩
    | exact ⟨ok_bad (c := 32) (List.mem_append_right _ List.mem_cons_self) (by decide) (by decide), by simp; omega⟩
    | exact ⟨ok_bad (c := 120) (List.mem_append_right _ List.mem_cons_self) (by decide) (by decide), by simp; omega⟩
    | exact ⟨ok_bad (c := 46) (List.mem_append_right _ List.mem_cons_self) (by decide) (by decide), by simp; omega⟩
    | exact ⟨ok_zero z, by simp; omega⟩
def bdl (w : List Nat) (i : Nat) : List (List Nat) := [[], [32], [40], [41], w ++ [32], 32 :: w, w ++ [41], 40 :: w, w ++ [44, 32] ++ w, [39], [39, 97], [97, 39], [122, 122],
  [40, 49, 44, 50, 41], [40, 49, 44, 32, 32, 50, 41], [40, 49, 32, 44, 32, 50, 41], [40, 32, 49, 41], [40, 49, 32, 41], [40, 49, 44, 32, 41], [40, 44, 32, 49, 41], [40, 49, 44, 41], [40, 39, 97, 39, 39, 98, 39, 41], [40, 48, 49, 41], [40, 45, 48, 41],
  [91, 49, 93], [40, 49, 59, 32, 50, 41], [39, 97, 10, 98, 39], w ++ [10], [40, 39, 97, 41], [40, 40, 49, 44, 32, 50, 41], [40, 49, 44, 32, 50, 41, 41], w.take i ++ 10 :: w.drop i]
theorem bad_data (k : Nat) (st : DS) (w : List Nat) (h : w.length ≤ 2000000) : ∃ (i : Nat) (st' : DS), Phi tb (k + 2) 16 [.ref 0, .str w] [st.cell] = .ok true (.lst ((bdl w i).map .str)) [st'.cell] := by
  obtain ⟨v, st1, hv, e⟩ := draw k st (w.length + 1) (by omega) (by omega)
  have e : (prog tb (k + 1)).call 7 [.ref 0, .int (w.length + 1 : Nat)] [st.cell] = .ok false (.int v) [st1.cell] := e
  refine ⟨v, st1, ?_⟩
  rw [phi_succ (fn := f16) rfl rfl (by decide)]
  have h1 : 1 + w.length ≤ LIM := Nat.le_trans (by omega : 1 + w.length ≤ 5000000) (by decide)
  have h2 : w.length + 1 ≤ LIM := by omega
  have h3 : w.length + 2 ≤ LIM := Nat.le_trans (by omega : w.length + 2 ≤ 5000000) (by decide)
  have h7 : w.length + 2 + w.length ≤ LIM := Nat.le_trans (by omega : w.length + 2 + w.length ≤ 5000000) (by decide)
  have c1 := cut_to w v
  have c2 := cut_from w v
  have h8 : (w.take v).length + 1 ≤ LIM := by
    have : (w.take v).length ≤ w.length := by rw [List.length_take]; omega
    omega
  have h9 : (w.take v ++ [10]).length + (w.drop v).length ≤ LIM := by
    rw [List.length_append, List.length_take, List.length_drop]
    have : ([10] : List Nat).length = 1 := rfl
    omega
  have hcast : ((w.length + 1 : Nat) : Int) = (w.length : Int) + 1 := by omega
  rw [hcast] at e
  have n4 : 13 ≤ LIM := by decide
  have n5 : 11 ≤ LIM := by decide
  have n6 : 8 ≤ LIM := by decide
  have n7 : 24 ≤ LIM := by decide
  have n8 : 32 ≤ LIM := by decide
  have n9 : 2 + 1 ≤ LIM := by decide
  have n10 : 3 + 2 ≤ LIM := by decide
  have ea : w.take v ++ 10 :: w.drop v = (w.take v ++ [10]) ++ w.drop v := by simp
  unfold bdl
  rw [ea]
  generalize hp : w.take v = p at *
  generalize hq : w.drop v = q at *
  generalize (v : Int) = V at *
  rw [List.length_append] at h9
  have : ([10] : List Nat).length = 1 := rfl
  rw [this] at h9
  simp [exec, execs, ev, evs, evo, evrs, evt, evtb, evts, evit, evb, rdArg, rdPlace, readV, Place.get, Place.set, Arg.get, getAll, Res.bind, Res.then, RS.seq, lift, prim, prim1, prim2, binD, cmpD, ixD, slD, lenP, lenD, intD, negD, bindTo, assign, assigns, fin, derefS, gc, fit_str, fit_int, D.eqv, truthD, Cell.view, isList, mutC, mrecv, mprim, mprim2, mprim3, augD, toCell, Option.bind, fromF, isiP, isiD, tupleD, listD, seqOf, noX, iterD, isSh, f16, e, c1, c2, h1, h2, h3, h7, h8, h9, n4, n5, n6, n7, n8, n9, n10]
theorem nl_take : ∀ (x : List Nat) (n m : Nat), nl m x = true → nl m (x.take n) = true
  | _, 0, _, _ => by simp [nl]
  | [], n + 1, _, _ => by simp [nl]
  | c :: r, n + 1, m, h => by
    rw [List.take_succ_cons, nl_cons]
    rw [nl_cons] at h
    by_cases hs : isS c = true
    · rw [if_pos hs] at h ⊢
      match m, h with
      | m + 1, h => exact nl_take r n m h
    · rw [if_neg hs] at h ⊢
      exact nl_take r n 9700 h
theorem bdl_bad (d : Dt) (i : Nat) (h : Dr 6 d) : ∀ x ∈ bdl (wr d) i, rd x = none ∧ nl 9700 x = true ∧ x.length < 16000000 := by
  have hl : (wr d).length ≤ 2000000 := Nat.le_trans h.ln (by decide)
  have hh : hi d ≤ 20 := by have := h.hi; omega
  have hn := h.nl
  have e0 : nl 9700 [] = true := rfl
  intro x hx
  unfold bdl at hx
  simp only [List.mem_cons, List.not_mem_nil, or_false] at hx
  rcases hx with h' | h' | h' | h' | h' | h' | h' | h' | h' | h' | h' | h' | h' | h' | h' | h' | h' | h' | h' | h' | h' | h' | h' | h' | h' | h' | h' | h' | h' | h' | h' | h' <;> subst h'
  all_goals first
    | exact ⟨by decide +kernel, by decide, by decide⟩
    | exact ⟨M_wr0 d 32 [] h.pd hh (by decide), by rw [nl_app _ _ _ _ (by decide), hn]; rfl, by simp; omega⟩
    | exact ⟨M_wr0 d 41 [] h.pd hh (by decide), by rw [nl_app _ _ _ _ (by decide), hn]; rfl, by simp; omega⟩
    | exact ⟨M_wr0 d 10 [] h.pd hh (by decide), by rw [nl_app _ _ _ _ (by decide), hn]; rfl, by simp; omega⟩
    | exact ⟨rd_blank _, by rw [nl_cons, if_neg (by decide)]; exact hn, by simp; omega⟩
    | exact ⟨rd_open d h.pd (by have := h.hi; omega), by rw [nl_cons, if_neg (by decide)]; exact hn, by simp; omega⟩
    | exact ⟨by
        have e : wr d ++ [44, 32] ++ wr d = wr d ++ 44 :: (32 :: wr d) := by simp
        rw [e]
        exact M_wr0 d 44 _ h.pd hh (by decide), by
        have e : wr d ++ [44, 32] ++ wr d = wr d ++ 44 :: ([] ++ 32 :: wr d) := by simp
        rw [e, nl_app _ _ _ _ (by decide), nl_app _ _ _ _ (by decide), hn]; rfl, by simp; omega⟩
    | exact ⟨rd_nl (by simp), by rw [nl_app _ _ _ _ (by decide), nl_take _ _ _ hn, nl_drop i hn]; rfl, by simp; omega⟩
end K57

set_option Elab.async false
set_option linter.all false
set_option maxRecDepth 100000
set_option maxHeartbeats 4000000
set_option autoImplicit false
set_option exponentiation.threshold 50000
/-! k57, the plain law: a turn. -/
namespace K57
open Z
def lst0 (ns : List Int) (st : DS) (a2 a3 a4 a5 a6 : Slot) : Sta := ⟨[.sh (.scr ns), .sh (.ref 0), a2, a3, a4, a5, a6, .no, .no, .no, .no], [st.cell]⟩
abbrev lB1 : List Z.S := [(.setT (.tup [(.v 3), (.v 4)]) (.call 11 [(.v 1)])),
    (.ife (.bop false [(.not (.e (.call 10 [(.call 0 [(.v 3)]), (.v 4)]))), (.not (.e (.call 10 [(.call 1 [(.v 4)]), (.v 3)])))]) [(.ret (.lit (.bl false)))] [])]
abbrev lB2 : List Z.S := [(.setT (.tup [(.v 5), (.v 6)]) (.call 13 [(.v 1), (.lit (.int 6))])),
    (.ife (.bop false [(.not (.e (.call 10 [(.call 2 [(.v 5)]), (.v 6)]))), (.not (.e (.call 10 [(.call 5 [(.v 6)]), (.v 5)])))]) [(.ret (.lit (.bl false)))] [])]
abbrev lB3 : List Z.S := [(.ife (.not (.e (.call 14 [(.fn 1), (.call 8 [(.v 1), (.call 15 [(.v 4)])])]))) [(.ret (.lit (.bl false)))] [])]
abbrev lB4 : List Z.S := [(.ife (.not (.e (.call 14 [(.fn 5), (.call 8 [(.v 1), (.call 16 [(.v 1), (.v 6)])])]))) [(.ret (.lit (.bl false)))] [])]
theorem turn1 (ns : List Int) (st : DS) (a2 a3 a4 a5 a6 : Slot) : ∃ (z : Int) (st' : DS), z.natAbs < 10 ^ 180 ∧ execs (prog tb 59) lB1 (lst0 ns st a2 a3 a4 a5 a6) = .next (lst0 ns st' a2 (.sh (.int z)) (.sh (.str (wi z))) a5 a6) := by
  obtain ⟨z, st1, hz, e1⟩ := int_drawn 57 st
  have e1 : (prog tb 59).call 11 [.ref 0] [st.cell] = .ok false (.tup [.int z, .str (wi z)]) [st1.cell] := e1
  have hz2 : z.natAbs < 10 ^ 9600 := Nat.lt_of_lt_of_le hz (Nat.pow_le_pow_right (by decide) (by decide))
  have hl := wi_len hz
  have e2 : (prog tb 59).call 0 [.int z] [st1.cell] = .ok false (.str (wi z)) [st1.cell] := write_int 57 _ z hz2
  have e3 : (prog tb 59).call 10 [.str (wi z), .str (wi z)] [st1.cell] = .ok false (.bl true) [st1.cell] := same_str 58 _ _
  have e4 : (prog tb 59).call 1 [.str (wi z)] [st1.cell] = .ok false (.int z) [st1.cell] := by
    have := read_int 58 [st1.cell] (wi z) (by omega)
    rw [if_pos (wi_ok z).1, (wi_ok z).2] at this
    exact this
  have e5 : (prog tb 59).call 10 [.int z, .int z] [st1.cell] = .ok false (.bl true) [st1.cell] := same_int 57 _ _
  refine ⟨z, st1, hz, ?_⟩
  generalize wi z = w at *
  simp [exec, execs, ev, evs, evo, evrs, evt, evtb, evts, evit, evb, rdArg, rdPlace, readV, Place.get, Place.set, Arg.get, getAll, Res.bind, Res.then, RS.seq, lift, prim, prim1, prim2, binD, cmpD, ixD, slD, lenP, lenD, intD, negD, bindTo, assign, assigns, fin, derefS, gc, fit_str, fit_int, D.eqv, truthD, Cell.view, isList, mutC, mrecv, mprim, mprim2, mprim3, augD, toCell, Option.bind, fromF, isiP, isiD, tupleD, listD, seqOf, noX, iterD, isSh, lst0, e1, e2, e3, e4, e5]
theorem turn2 (ns : List Int) (st : DS) (a2 a3 a4 a5 a6 : Slot) : ∃ (d : Dt) (st' : DS), Dr 6 d ∧ execs (prog tb 59) lB2 (lst0 ns st a2 a3 a4 a5 a6) = .next (lst0 ns st' a2 a3 a4 (.sh (toD d)) (.sh (.str (wr d)))) := by
  obtain ⟨d, st1, hd, e1⟩ := data_drawn 6 49 st (by decide)
  have e1 : (prog tb 59).call 13 [.ref 0, .int 6] [st.cell] = .ok false (.tup [toD d, .str (wr d)]) [st1.cell] := e1
  have hl : (wr d).length ≤ 2000000 := Nat.le_trans hd.ln (by decide)
  have e2 : (prog tb 59).call 2 [toD d] [st1.cell] = .ok false (.str (wr d)) [st1.cell] := write_data [st1.cell] 6 50 d hd.hi hd.gd (Nat.le_trans hl (by decide))
  have e3 : (prog tb 59).call 10 [.str (wr d), .str (wr d)] [st1.cell] = .ok false (.bl true) [st1.cell] := same_str 58 _ _
  have e4 : (prog tb 59).call 5 [.str (wr d)] [st1.cell] = .ok false (toD d) [st1.cell] := by
    have := read_data 56 [st1.cell] (okS_st st1) (wr d) hd.nl (by omega)
    rw [rd_wr d hd.pd (by have := hd.hi; omega)] at this
    exact this
  have e5 : (prog tb 59).call 10 [toD d, toD d] [st1.cell] = .ok false (.bl true) [st1.cell] := same_D [st1.cell] 6 51 d hd.hi hd.wd
  refine ⟨d, st1, hd, ?_⟩
  generalize wr d = w at *
  generalize toD d = t at *
  simp [exec, execs, ev, evs, evo, evrs, evt, evtb, evts, evit, evb, rdArg, rdPlace, readV, Place.get, Place.set, Arg.get, getAll, Res.bind, Res.then, RS.seq, lift, prim, prim1, prim2, binD, cmpD, ixD, slD, lenP, lenD, intD, negD, bindTo, assign, assigns, fin, derefS, gc, fit_str, fit_int, D.eqv, truthD, Cell.view, isList, mutC, mrecv, mprim, mprim2, mprim3, augD, toCell, Option.bind, fromF, isiP, isiD, tupleD, listD, seqOf, noX, iterD, isSh, lst0, e1, e2, e3, e4, e5]
theorem turn3 (ns : List Int) (st : DS) (z : Int) (hz : z.natAbs < 10 ^ 180) (a2 a3 a5 a6 : Slot) : ∃ (st' : DS), execs (prog tb 59) lB3 (lst0 ns st a2 a3 (.sh (.str (wi z))) a5 a6) = .next (lst0 ns st' a2 a3 (.sh (.str (wi z))) a5 a6) := by
  have hl := wi_len hz
  have e1 : (prog tb 59).call 15 [.str (wi z)] [st.cell] = .ok true (.lst ((bi (wi z)).map .str)) [st.cell] := bad_ints 58 _ _ (by omega)
  have hlen : ((bi (wi z)).map D.str).length = 20 := by simp [bi]
  obtain ⟨x, st1, hx, e2⟩ := one_of 57 st ((bi (wi z)).map .str) (by rw [hlen]; decide) (by rw [hlen]; decide)
  obtain ⟨y, hy, rfl⟩ := List.mem_map.mp hx
  have e2 : (prog tb 59).call 8 [.ref 0, .lst ((bi (wi z)).map .str)] [st.cell] = .ok false (.str y) [st1.cell] := e2
  obtain ⟨g1, g2⟩ := bi_bad z hz y hy
  have e3 : (prog tb 59).call 14 [.fn 1, .str y] [st1.cell] = .ok false (.bl true) [st1.cell] := refused 58 1 [st1.cell] y (by
    have := read_int 57 [st1.cell] y g2
    rw [if_neg (by rw [g1]; decide)] at this
    exact this)
  refine ⟨st1, ?_⟩
  generalize (bi (wi z)).map D.str = L at *
  generalize wi z = w at *
  simp [exec, execs, ev, evs, evo, evrs, evt, evtb, evts, evit, evb, rdArg, rdPlace, readV, Place.get, Place.set, Arg.get, getAll, Res.bind, Res.then, RS.seq, lift, prim, prim1, prim2, binD, cmpD, ixD, slD, lenP, lenD, intD, negD, bindTo, assign, assigns, fin, derefS, gc, fit_str, fit_int, D.eqv, truthD, Cell.view, isList, mutC, mrecv, mprim, mprim2, mprim3, augD, toCell, Option.bind, fromF, isiP, isiD, tupleD, listD, seqOf, noX, iterD, isSh, lst0, e1, e2, e3]
theorem turn4 (ns : List Int) (st : DS) (d : Dt) (hd : Dr 6 d) (a2 a3 a4 a5 : Slot) : ∃ (st' : DS), execs (prog tb 59) lB4 (lst0 ns st a2 a3 a4 a5 (.sh (.str (wr d)))) = .next (lst0 ns st' a2 a3 a4 a5 (.sh (.str (wr d)))) := by
  have hl : (wr d).length ≤ 2000000 := Nat.le_trans hd.ln (by decide)
  obtain ⟨i, st1, e1⟩ := bad_data 57 st (wr d) hl
  have e1 : (prog tb 59).call 16 [.ref 0, .str (wr d)] [st.cell] = .ok true (.lst ((bdl (wr d) i).map .str)) [st1.cell] := e1
  have hlen : ((bdl (wr d) i).map D.str).length = 32 := by simp [bdl]
  obtain ⟨x, st2, hx, e2⟩ := one_of 57 st1 ((bdl (wr d) i).map .str) (by rw [hlen]; decide) (by rw [hlen]; decide)
  obtain ⟨y, hy, rfl⟩ := List.mem_map.mp hx
  have e2 : (prog tb 59).call 8 [.ref 0, .lst ((bdl (wr d) i).map .str)] [st1.cell] = .ok false (.str y) [st2.cell] := e2
  obtain ⟨g1, g2, g3⟩ := bdl_bad d i hd y hy
  have e3 : (prog tb 59).call 14 [.fn 5, .str y] [st2.cell] = .ok false (.bl true) [st2.cell] := refused 58 5 [st2.cell] y (by
    have := read_data 55 [st2.cell] (okS_st st2) y g2 g3
    rw [g1] at this
    exact this)
  refine ⟨st2, ?_⟩
  generalize (bdl (wr d) i).map D.str = L at *
  generalize wr d = w at *
  simp [exec, execs, ev, evs, evo, evrs, evt, evtb, evts, evit, evb, rdArg, rdPlace, readV, Place.get, Place.set, Arg.get, getAll, Res.bind, Res.then, RS.seq, lift, prim, prim1, prim2, binD, cmpD, ixD, slD, lenP, lenD, intD, negD, bindTo, assign, assigns, fin, derefS, gc, fit_str, fit_int, D.eqv, truthD, Cell.view, isList, mutC, mrecv, mprim, mprim2, mprim3, augD, toCell, Option.bind, fromF, isiP, isiD, tupleD, listD, seqOf, noX, iterD, isSh, lst0, e1, e2, e3]
theorem turn (ns : List Int) (st : DS) (j : Int) (a2 a3 a4 a5 a6 : Slot) : ∃ (z : Int) (st' : DS) (a5' a6' : Slot), z.natAbs < 10 ^ 180 ∧
    fbody (prog tb 59) (.v 2) (lB1 ++ (lB2 ++ (lB3 ++ lB4))) (.int j) (lst0 ns st a2 a3 a4 a5 a6) = .next (lst0 ns st' (.sh (.int j)) (.sh (.int z)) (.sh (.str (wi z))) a5' a6') := by
  obtain ⟨z, st1, hz, e1⟩ := turn1 ns st (.sh (.int j)) a3 a4 a5 a6
  obtain ⟨d, st2, hd, e2⟩ := turn2 ns st1 (.sh (.int j)) (.sh (.int z)) (.sh (.str (wi z))) a5 a6
  obtain ⟨st3, e3⟩ := turn3 ns st2 z hz (.sh (.int j)) (.sh (.int z)) (.sh (toD d)) (.sh (.str (wr d)))
  obtain ⟨st4, e4⟩ := turn4 ns st3 d hd (.sh (.int j)) (.sh (.int z)) (.sh (.str (wi z))) (.sh (toD d))
  refine ⟨z, st4, .sh (toD d), .sh (.str (wr d)), hz, ?_⟩
  have ea : assign (.v 2) (.int j) (lst0 ns st a2 a3 a4 a5 a6).σ = some (lst0 ns st (.sh (.int j)) a3 a4 a5 a6).σ := by simp [assign, lst0]
  show (match assign (.v 2) (.int j) (lst0 ns st a2 a3 a4 a5 a6).σ with
      | some σ' => execs (prog tb 59) (lB1 ++ (lB2 ++ (lB3 ++ lB4))) { (lst0 ns st a2 a3 a4 a5 a6) with σ := σ' }
      | none => .stuck) = _
  rw [ea]
  show execs (prog tb 59) (lB1 ++ (lB2 ++ (lB3 ++ lB4))) (lst0 ns st (.sh (.int j)) a3 a4 a5 a6) = _
  rw [execs_app _ _ _ _ e1, execs_app _ _ _ _ e2, execs_app _ _ _ _ e3, e4]
/-! ### the great number -/
def gst (ns : List Int) (st : DS) (a2 a3 a4 a5 : Slot) (G : Nat) : Sta := ⟨[.sh (.scr ns), .sh (.ref 0), a2, a3, a4, a5, .sh (.str (digits G)), .sh (.int G), .no, .no, .no], [st.cell]⟩
abbrev gB : List Z.S := [(.set 7 (.pr (.bin .Add) [(.pr (.bin .Mult) [(.v 7), (.pr (.bin .Pow) [(.lit (.int 10)), (.lit (.int 18))])]), (.v 2)])),
    (.set 6 (.pr (.bin .Add) [(.v 6), (.sl (.pr .strOf [(.pr (.bin .Add) [(.pr (.bin .Pow) [(.lit (.int 10)), (.lit (.int 18))]), (.v 2)])]) (some (.lit (.int 1))) none)]))]
theorem gB_ok (ns : List Int) (st : DS) (a2 a3 a4 a5 : Slot) (G j : Nat) (hG : 0 < G) (hj : j < 1000) (hl : (digits G).length ≤ 9000) :
    fbody (prog tb 59) (.v 2) gB (.int j) (gst ns st a2 a3 a4 a5 G) = .next (gst ns st (.sh (.int j)) a3 a4 a5 (G * 10 ^ 18 + j)) := by
  have h18 : j < 10 ^ 18 := Nat.lt_of_lt_of_le hj (by decide)
  have d1 := digits_fw hG 18 j h18
  have d2 := digits_fw (a := 1) (by decide) 18 j h18
  have d3 : digits 1 = [49] := by decide
  rw [d3, Nat.one_mul] at d2
  have hm : mulOk (G : Int) 1000000000000000000 = true := by simp [mulOk]
  have e1 : (G : Int) * 1000000000000000000 + (j : Int) = ((G * 10 ^ 18 + j : Nat) : Int) := by simp
  obtain ⟨J, e2, e3, e4, e5⟩ : ∃ J : Int, (1000000000000000000 : Int) + (j : Int) = J ∧ 0 ≤ J ∧ J.natAbs.log2 < 1920 ∧ digits J.natAbs = 49 :: fw 18 j := by
    refine ⟨(10 ^ 18 + j : Nat), by omega, by omega, ?_, ?_⟩
    · rw [Int.natAbs_natCast]
      exact log_lt (Nat.lt_of_lt_of_le (by omega : 10 ^ 18 + j < 2 * 10 ^ 18) (by decide)) (by decide)
    · rw [Int.natAbs_natCast]; exact d2
  have hc : cut (49 :: fw 18 j) (some 1) none = fw 18 j := cut_from (49 :: fw 18 j) 1
  have hlim : (digits G).length + (fw 18 j).length ≤ LIM := by
    rw [fw_len]
    exact Nat.le_trans (Nat.add_le_add_right hl 18) (by decide)
  unfold gst
  rw [d1, ← e1]
  generalize fw 18 j = F at *
  generalize digits G = X at *
  generalize (G : Int) = g at *
  simp [exec, execs, ev, evs, evo, evrs, evt, evtb, evts, evit, evb, rdArg, rdPlace, readV, Place.get, Place.set, Arg.get, getAll, Res.bind, Res.then, RS.seq, lift, prim, prim1, prim2, binD, cmpD, ixD, slD, lenP, lenD, intD, negD, bindTo, assign, assigns, fin, derefS, gc, fit_str, fit_int, D.eqv, truthD, Cell.view, isList, mutC, mrecv, mprim, mprim2, mprim3, augD, toCell, Option.bind, fromF, isiP, isiD, tupleD, listD, seqOf, noX, iterD, isSh, fbody, pow18, hm, e2, e3, e4, e5, strD, hc, hlim]
theorem gloop (ns : List Int) (st : DS) (a3 a4 a5 : Slot) : ∀ (r j G : Nat) (a2 : Slot), 0 < G → j + r ≤ 280 → G < 10 ^ (200 + 18 * j) → ∃ (G' : Nat) (a2' : Slot), 0 < G' ∧ G' < 10 ^ 5300 ∧ forL (fbody (prog tb 59) (.v 2) gB) (rangeL (j : Int) r) (gst ns st a2 a3 a4 a5 G) = .next (gst ns st a2' a3 a4 a5 G')
  | 0, j, G, a2, hG, hj, hb => ⟨G, a2, hG, Nat.lt_of_lt_of_le hb (Nat.pow_le_pow_right (by decide) (by omega)), rfl⟩
  | r + 1, j, G, a2, hG, hj, hb => by
    have hl := digits_len (by omega) hb
    have h1 := gB_ok ns st a2 a3 a4 a5 G j hG (by omega) (by omega)
    have hb2 : G * 10 ^ 18 + j < 10 ^ (200 + 18 * (j + 1)) := by
      have e : 10 ^ (200 + 18 * (j + 1)) = 10 ^ (200 + 18 * j) * 10 ^ 18 := by rw [← Nat.pow_add]; congr 1
      rw [e]
      have : (G + 1) * 10 ^ 18 ≤ 10 ^ (200 + 18 * j) * 10 ^ 18 := Nat.mul_le_mul_right _ hb
      have h18 : j < 10 ^ 18 := Nat.lt_of_lt_of_le (by omega : j < 1000) (by decide)
      rw [Nat.add_mul, Nat.one_mul] at this
      omega
    obtain ⟨G', a2', g1, g2, g3⟩ := gloop ns st a3 a4 a5 r (j + 1) (G * 10 ^ 18 + j) (.sh (.int j)) (Nat.add_pos_left (Nat.mul_pos hG (Nat.pow_pos (by decide))) j) (by omega) hb2
    refine ⟨G', a2', g1, g2, ?_⟩
    simp only [rangeL, forL]
    rw [h1]
    have e : (j : Int) + 1 = ((j + 1 : Nat) : Int) := by omega
    rw [e]
    exact g3
/-! ### nests -/
def nst (z : Int) : Nat → Dt
  | 0 => .int z
  | n + 1 => .tup [nst z n]
theorem rep_snoc (n c : Nat) : List.replicate (n + 1) c = List.replicate n c ++ [c] := List.replicate_succ' ..
theorem nst_wr (z : Int) : ∀ n, wr (nst z n) = List.replicate n 40 ++ wi z ++ List.replicate n 41
  | 0 => by simp [nst, wr]
  | n + 1 => by
    have ih := nst_wr z n
    simp only [nst, wr, wrs, joinL]
    rw [ih, rep_snoc n 41]
    simp [List.replicate_succ]
theorem nst_hi (z : Int) : ∀ n, hi (nst z n) = n
  | 0 => rfl
  | n + 1 => by simp only [nst, hi, his, nst_hi z n]; omega
theorem nst_ok (z : Int) (hz : z.natAbs < 10 ^ 180) : ∀ n, pd (nst z n) ∧ wd (nst z n) ∧ good (nst z n)
  | 0 => ⟨trivial, trivial, Nat.lt_of_lt_of_le hz (Nat.pow_le_pow_right (by decide) (by decide))⟩
  | n + 1 => by
    obtain ⟨a, b, c⟩ := nst_ok z hz n
    exact ⟨⟨a, trivial⟩, ⟨(show (1 : Nat) ≤ LIM by decide), b, trivial⟩, ⟨c, trivial⟩⟩
theorem nl_open : ∀ (n : Nat) (y : List Nat), nl 9700 (List.replicate n 40 ++ y) = nl 9700 y
  | 0, y => rfl
  | n + 1, y => by
    rw [List.replicate_succ, List.cons_append, nl_cons, if_neg (by decide)]
    exact nl_open n y
theorem nl_close : ∀ (n : Nat), nl 9700 (List.replicate n 41) = true
  | 0 => rfl
  | n + 1 => by
    rw [List.replicate_succ, nl_cons, if_neg (by decide)]
    exact nl_close n
theorem nl_nest (z : Int) (hz : z.natAbs < 10 ^ 180) (n : Nat) : nl 9700 (List.replicate n 40 ++ wi z ++ List.replicate n 41) = true := by
  have hl := wi_len hz
  have h1 : nl 9700 (wi z) = true := nl_short _ _ (by omega) (by omega)
  rw [List.append_assoc, nl_open]
  cases n with
  | zero => simpa using h1
  | succ n => rw [List.replicate_succ, nl_app _ _ _ _ (by decide), h1, nl_close]; rfl
theorem rep_flat (n c : Nat) : (List.replicate n [c]).flatten = List.replicate n c := by
  induction n with
  | zero => rfl
  | succ n ih => rw [List.replicate_succ, List.flatten_cons, ih, List.replicate_succ]; rfl
end K57

set_option Elab.async false
set_option linter.all false
set_option maxRecDepth 100000
set_option maxHeartbeats 4000000
set_option autoImplicit false
set_option exponentiation.threshold 50000
/-! k57, the plain law: the whole. -/
namespace K57
open Z
theorem wi_nat (N : Nat) : wi (N : Int) = digits N := by
  unfold wi
  rw [if_neg (by omega)]
  simp
theorem tloop (ns : List Int) : ∀ (r : Nat) (j : Int) (st : DS) (z : Int) (a2 a5 a6 : Slot), z.natAbs < 10 ^ 180 → ∃ (z' : Int) (st' : DS) (a2' a5' a6' : Slot), z'.natAbs < 10 ^ 180 ∧
    forL (fbody (prog tb 59) (.v 2) (lB1 ++ (lB2 ++ (lB3 ++ lB4)))) (rangeL j r) (lst0 ns st a2 (.sh (.int z)) (.sh (.str (wi z))) a5 a6) = .next (lst0 ns st' a2' (.sh (.int z')) (.sh (.str (wi z'))) a5' a6')
  | 0, j, st, z, a2, a5, a6, hz => ⟨z, st, a2, a5, a6, hz, rfl⟩
  | r + 1, j, st, z, a2, a5, a6, hz => by
    obtain ⟨z1, st1, b5, b6, h1, h2⟩ := turn ns st j a2 (.sh (.int z)) (.sh (.str (wi z))) a5 a6
    obtain ⟨z2, st2, c2, c5, c6, g1, g2⟩ := tloop ns r (j + 1) st1 z1 (.sh (.int j)) b5 b6 h1
    refine ⟨z2, st2, c2, c5, c6, g1, ?_⟩
    simp only [rangeL, forL]
    rw [h2]
    exact g2
theorem tall (ns : List Int) (st : DS) : ∃ (z' : Int) (st' : DS) (a2' a5' a6' : Slot), z'.natAbs < 10 ^ 180 ∧
    forL (fbody (prog tb 59) (.v 2) (lB1 ++ (lB2 ++ (lB3 ++ lB4)))) (rangeL 0 4) (lst0 ns st .no .no .no .no .no) = .next (lst0 ns st' a2' (.sh (.int z')) (.sh (.str (wi z'))) a5' a6') := by
  obtain ⟨z1, st1, b5, b6, h1, h2⟩ := turn ns st 0 .no .no .no .no .no
  obtain ⟨z2, st2, c2, c5, c6, g1, g2⟩ := tloop ns 3 1 st1 z1 (.sh (.int 0)) b5 b6 h1
  refine ⟨z2, st2, c2, c5, c6, g1, ?_⟩
  rw [show rangeL 0 4 = .int 0 :: rangeL 1 3 from rfl]
  simp only [forL]
  rw [h2]
  exact g2
abbrev kS : List Z.S := [(.fr (.v 10) (.rng [(.v 8)]) [(.set 5 (.tup [(.v 5)]))])]
def est (ns : List Int) (st : DS) (a2 : Slot) (z : Int) (d : Slot) (a6 a7 : Slot) (dp : Nat) (nt : List Nat) (a10 : Slot) : Sta := ⟨[.sh (.scr ns), .sh (.ref 0), a2, .sh (.int z), .sh (.str (wi z)), d, a6, a7, .sh (.int dp), .sh (.str nt), a10], [st.cell]⟩
theorem kloop (ns : List Int) (st : DS) (a2 a6 a7 : Slot) (z : Int) (dp : Nat) (nt : List Nat) : ∀ (r n : Nat) (j : Int) (a10 : Slot), ∃ a10', forL (fbody (prog tb 59) (.v 10) [(.set 5 (.tup [(.v 5)]))]) (rangeL j r) (est ns st a2 z (.sh (toD (K57.nst z n))) a6 a7 dp nt a10) = .next (est ns st a2 z (.sh (toD (K57.nst z (n + r)))) a6 a7 dp nt a10')
  | 0, n, j, a10 => ⟨a10, rfl⟩
  | r + 1, n, j, a10 => by
    obtain ⟨a10', ih⟩ := kloop ns st a2 a6 a7 z dp nt r (n + 1) (j + 1) (.sh (.int j))
    refine ⟨a10', ?_⟩
    have e : fbody (prog tb 59) (.v 10) [(.set 5 (.tup [(.v 5)]))] (.int j) (est ns st a2 z (.sh (toD (K57.nst z n))) a6 a7 dp nt a10) = .next (est ns st a2 z (.sh (toD (K57.nst z (n + 1)))) a6 a7 dp nt (.sh (.int j))) := by
      have ed : toD (K57.nst z (n + 1)) = .tup [toD (K57.nst z n)] := rfl
      have hL : 1 ≤ LIM := by decide
      rw [ed]
      unfold est
      generalize toD (K57.nst z n) = t
      generalize wi z = w
      simp [exec, execs, ev, evs, evo, evrs, evt, evtb, evts, evit, evb, rdArg, rdPlace, readV, Place.get, Place.set, Arg.get, getAll, Res.bind, Res.then, RS.seq, lift, prim, prim1, prim2, binD, cmpD, ixD, slD, lenP, lenD, intD, negD, bindTo, assign, assigns, fin, derefS, gc, fit_str, fit_int, D.eqv, truthD, Cell.view, isList, mutC, mrecv, mprim, mprim2, mprim3, augD, toCell, Option.bind, fromF, isiP, isiD, tupleD, listD, seqOf, noX, iterD, isSh, fbody, hL]
    simp only [rangeL, forL]
    rw [e]
    simp only
    rw [ih]
    congr 3
    have : n + 1 + r = n + (r + 1) := by omega
    rw [this]
abbrev q1 : Z.S := .set 7 (.pr (.bin .Add) [(.lit (.int 1)), (.pr .abs [(.v 3)])])
abbrev q2 : Z.S := .set 6 (.pr .strOf [(.v 7)])
abbrev q3 : Z.S := .fr (.v 2) (.rng [(.lit (.int 280))]) gB
abbrev q4 : Z.S := .ife (.bop false [(.not (.e (.call 10 [(.call 0 [(.v 7)]), (.v 6)]))), (.not (.e (.call 10 [(.call 1 [(.v 6)]), (.v 7)])))]) [(.ret (.lit (.bl false)))] []
abbrev q5 : Z.S := .set 8 (.pr (.bin .Add) [(.lit (.int 18)), (.call 7 [(.v 1), (.lit (.int 5))])])
abbrev q6 : Z.S := .setT (.tup [(.v 3), (.v 4)]) (.call 11 [(.v 1)])
abbrev q7 : Z.S := .set 9 (.pr (.bin .Add) [(.pr (.bin .Add) [(.pr (.bin .Mult) [(.lit (.str [40])), (.v 8)]), (.v 4)]), (.pr (.bin .Mult) [(.lit (.str [41])), (.v 8)])])
abbrev q8 : Z.S := .ife (.cmp .Gt (.v 8) (.lit (.int 20))) [(.ret (.bopV true [(.call 14 [(.fn 5), (.v 9)]), (.call 14 [(.fn 5), (.pr (.bin .Add) [(.pr (.bin .Mult) [(.lit (.str [40])), (.v 8)]), (.pr (.bin .Mult) [(.lit (.str [41])), (.v 8)])])])]))] []
abbrev q9 : Z.S := .set 5 (.v 3)
abbrev q10 : Z.S := .fr (.v 10) (.rng [(.v 8)]) [(.set 5 (.tup [(.v 5)]))]
abbrev q11 : Z.S := .ret (.bopV true [(.call 10 [(.call 5 [(.v 9)]), (.v 5)]), (.call 10 [(.call 2 [(.v 5)]), (.v 9)])])
theorem s_q12 (ns : List Int) (st : DS) (z : Int) (hz : z.natAbs < 10 ^ 180) (a2 a5 a6 : Slot) : ∃ G : Nat, 0 < G ∧ G < 10 ^ 200 ∧ execs (prog tb 59) [q1, q2] (lst0 ns st a2 (.sh (.int z)) (.sh (.str (wi z))) a5 a6) = .next (gst ns st a2 (.sh (.int z)) (.sh (.str (wi z))) a5 G) := by
  have hb : 1 + z.natAbs < 10 ^ 200 := Nat.lt_of_le_of_lt (by omega : 1 + z.natAbs ≤ 10 ^ 180) (Nat.pow_lt_pow_right (by decide) (by decide))
  have hlog : (1 + z.natAbs).log2 < 1920 := log_lt (Nat.lt_of_lt_of_le hb (by
    calc (10 : Nat) ^ 200 ≤ (2 ^ 4) ^ 200 := Nat.pow_le_pow_left (by decide) _
      _ = 2 ^ (4 * 200) := by rw [← Nat.pow_mul]
      _ ≤ 2 ^ 1920 := Nat.pow_le_pow_right (by decide) (by decide))) (by decide)
  refine ⟨1 + z.natAbs, by omega, hb, ?_⟩
  obtain ⟨A, hA, hA2⟩ : ∃ A : Int, (if z < 0 then -z else z) = A ∧ 1 + A = ((1 + z.natAbs : Nat) : Int) := ⟨_, rfl, by split <;> omega⟩
  unfold gst lst0
  obtain ⟨B, hB, hB0, hB1, hB2⟩ : ∃ B : Int, ((1 + z.natAbs : Nat) : Int) = B ∧ 0 ≤ B ∧ B.natAbs.log2 < 1920 ∧ digits B.natAbs = digits (1 + z.natAbs) := ⟨_, rfl, by omega, by rw [Int.natAbs_natCast]; exact hlog, by rw [Int.natAbs_natCast]⟩
  rw [hB] at hA2 ⊢
  generalize digits (1 + z.natAbs) = X at *
  generalize wi z = w
  simp [exec, execs, ev, evs, evo, evrs, evt, evtb, evts, evit, evb, rdArg, rdPlace, readV, Place.get, Place.set, Arg.get, getAll, Res.bind, Res.then, RS.seq, lift, prim, prim1, prim2, binD, cmpD, ixD, slD, lenP, lenD, intD, negD, bindTo, assign, assigns, fin, derefS, gc, fit_str, fit_int, D.eqv, truthD, Cell.view, isList, mutC, mrecv, mprim, mprim2, mprim3, augD, toCell, Option.bind, fromF, isiP, isiD, tupleD, listD, seqOf, noX, iterD, isSh, absD, hA, hA2, strD, hB0, hB1, hB2]
theorem s_q4 (ns : List Int) (st : DS) (a2 a3 a4 a5 : Slot) (G : Nat) (hG : G < 10 ^ 5300) : exec (prog tb 59) q4 (gst ns st a2 a3 a4 a5 G) = .next (gst ns st a2 a3 a4 a5 G) := by
  have hl := digits_len (by decide) hG
  have e1 : (prog tb 59).call 0 [.int G] [st.cell] = .ok false (.str (digits G)) [st.cell] := write_nat 58 _ G (Nat.lt_of_lt_of_le hG (Nat.pow_le_pow_right (by decide) (by decide)))
  have e2 : (prog tb 59).call 10 [.str (digits G), .str (digits G)] [st.cell] = .ok false (.bl true) [st.cell] := same_str 58 _ _
  have e3 : (prog tb 59).call 1 [.str (digits G)] [st.cell] = .ok false (.int G) [st.cell] := by
    have := read_int 58 [st.cell] (digits G) (by omega)
    rw [← wi_nat, if_pos (wi_ok G).1, (wi_ok G).2] at this
    rw [← wi_nat]
    exact this
  have e4 : (prog tb 59).call 10 [.int G, .int G] [st.cell] = .ok false (.bl true) [st.cell] := same_int 57 _ _
  unfold gst
  generalize digits G = X at *
  generalize (G : Int) = g at *
  simp [exec, execs, ev, evs, evo, evrs, evt, evtb, evts, evit, evb, rdArg, rdPlace, readV, Place.get, Place.set, Arg.get, getAll, Res.bind, Res.then, RS.seq, lift, prim, prim1, prim2, binD, cmpD, ixD, slD, lenP, lenD, intD, negD, bindTo, assign, assigns, fin, derefS, gc, fit_str, fit_int, D.eqv, truthD, Cell.view, isList, mutC, mrecv, mprim, mprim2, mprim3, augD, toCell, Option.bind, fromF, isiP, isiD, tupleD, listD, seqOf, noX, iterD, isSh, e1, e2, e3, e4]
theorem s_q567 (ns : List Int) (st : DS) (a2 a3 a4 a5 a6 a7 : Slot) : ∃ (dp : Nat) (z : Int) (st' : DS), 18 ≤ dp ∧ dp ≤ 22 ∧ z.natAbs < 10 ^ 180 ∧ execs (prog tb 59) [q5, q6, q7] ⟨[.sh (.scr ns), .sh (.ref 0), a2, a3, a4, a5, a6, a7, .no, .no, .no], [st.cell]⟩ = .next (est ns st' a2 z a5 a6 a7 dp (List.replicate dp 40 ++ wi z ++ List.replicate dp 41) .no) := by
  obtain ⟨v, st1, hv, e1⟩ := draw 58 st 5 (by decide) (by decide)
  have e1 : (prog tb 59).call 7 [.ref 0, .int 5] [st.cell] = .ok false (.int v) [st1.cell] := e1
  obtain ⟨z, st2, hz, e2⟩ := int_drawn 57 st1
  have e2 : (prog tb 59).call 11 [.ref 0] [st1.cell] = .ok false (.tup [.int z, .str (wi z)]) [st2.cell] := e2
  have hl := wi_len hz
  refine ⟨18 + v, z, st2, by omega, by omega, hz, ?_⟩
  obtain ⟨V, h1, h2, h3⟩ : ∃ V : Int, (18 : Int) + (v : Int) = V ∧ V.toNat = 18 + v ∧ V.natAbs < 1073741824 := ⟨_, rfl, by omega, by omega⟩
  have hV : ((18 + v : Nat) : Int) = V := by omega
  have f1 := rep_flat (18 + v) 40
  have f2 := rep_flat (18 + v) 41
  have g0 : (1 : Nat) * (18 + v) ≤ LIM := Nat.le_trans (by omega : 1 * (18 + v) ≤ 100) (by decide)
  have g0' : (18 + v) ≤ LIM := by omega
  have g1 : (List.replicate (18 + v) 40).length + (wi z).length ≤ LIM := by
    rw [List.length_replicate]
    exact Nat.le_trans (by omega : 18 + v + (wi z).length ≤ 1000) (by decide)
  have g2 : (List.replicate (18 + v) 40 ++ wi z).length + (List.replicate (18 + v) 41).length ≤ LIM := by
    rw [List.length_append, List.length_replicate, List.length_replicate]
    exact Nat.le_trans (by omega : 18 + v + (wi z).length + (18 + v) ≤ 1000) (by decide)
  have b1 : binD .Mult (.str [40]) (.int V) = some (false, .str (List.replicate (18 + v) 40)) := by
    simp only [binD]
    rw [if_pos ⟨by rw [h2]; exact g0, h3⟩, h2, f1]
  have b2 : binD .Mult (.str [41]) (.int V) = some (false, .str (List.replicate (18 + v) 41)) := by
    simp only [binD]
    rw [if_pos ⟨by rw [h2]; exact g0, h3⟩, h2, f2]
  have b3 : binD .Add (.str (List.replicate (18 + v) 40)) (.str (wi z)) = some (false, .str (List.replicate (18 + v) 40 ++ wi z)) := by
    simp only [binD]; rw [if_pos g1]
  have b4 : binD .Add (.str (List.replicate (18 + v) 40 ++ wi z)) (.str (List.replicate (18 + v) 41)) = some (false, .str (List.replicate (18 + v) 40 ++ wi z ++ List.replicate (18 + v) 41)) := by
    simp only [binD]; rw [if_pos g2]
  let t0 : Sta := ⟨[.sh (.scr ns), .sh (.ref 0), a2, .sh (.int z), .sh (.str (wi z)), a5, a6, a7, .sh (.int V), .no, .no], [st2.cell]⟩
  have s1 : exec (prog tb 59) q5 ⟨[.sh (.scr ns), .sh (.ref 0), a2, a3, a4, a5, a6, a7, .no, .no, .no], [st.cell]⟩ = .next ⟨[.sh (.scr ns), .sh (.ref 0), a2, a3, a4, a5, a6, a7, .sh (.int V), .no, .no], [st1.cell]⟩ := by
    simp [exec, execs, ev, evs, evo, evrs, evt, evtb, evts, evit, evb, rdArg, rdPlace, readV, Place.get, Place.set, Arg.get, getAll, Res.bind, Res.then, RS.seq, lift, prim, prim1, prim2, binD, cmpD, ixD, slD, lenP, lenD, intD, negD, bindTo, assign, assigns, fin, derefS, gc, fit_str, fit_int, D.eqv, truthD, Cell.view, isList, mutC, mrecv, mprim, mprim2, mprim3, augD, toCell, Option.bind, fromF, isiP, isiD, tupleD, listD, seqOf, noX, iterD, isSh, e1, h1]
  have s2 : exec (prog tb 59) q6 ⟨[.sh (.scr ns), .sh (.ref 0), a2, a3, a4, a5, a6, a7, .sh (.int V), .no, .no], [st1.cell]⟩ = .next t0 := by
    simp only [t0]
    generalize wi z = w at *
    simp [exec, execs, ev, evs, evo, evrs, evt, evtb, evts, evit, evb, rdArg, rdPlace, readV, Place.get, Place.set, Arg.get, getAll, Res.bind, Res.then, RS.seq, lift, prim, prim1, prim2, binD, cmpD, ixD, slD, lenP, lenD, intD, negD, bindTo, assign, assigns, fin, derefS, gc, fit_str, fit_int, D.eqv, truthD, Cell.view, isList, mutC, mrecv, mprim, mprim2, mprim3, augD, toCell, Option.bind, fromF, isiP, isiD, tupleD, listD, seqOf, noX, iterD, isSh, e2]
  have p1 := ev_pr2 (P := prog tb 59) (p := .bin .Mult) (a := .lit (.str [40])) (b := .v 8) (s := t0) (s1 := t0) (s2 := t0) (x := .val (.str [40])) (y := .val (.int V)) (by simp [exec, execs, ev, evs, evo, evrs, evt, evtb, evts, evit, evb, rdArg, rdPlace, readV, Place.get, Place.set, Arg.get, getAll, Res.bind, Res.then, RS.seq, lift, prim, prim1, prim2, binD, cmpD, ixD, slD, lenP, lenD, intD, negD, bindTo, assign, assigns, fin, derefS, gc, fit_str, fit_int, D.eqv, truthD, Cell.view, isList, mutC, mrecv, mprim, mprim2, mprim3, augD, toCell, Option.bind, fromF, isiP, isiD, tupleD, listD, seqOf, noX, iterD, isSh]) (by simp [rdArg, t0]) rfl rfl (show prim2 (.bin .Mult) _ _ = _ from b1)
  have p2 := ev_pr2 (P := prog tb 59) (p := .bin .Mult) (a := .lit (.str [41])) (b := .v 8) (s := t0) (s1 := t0) (s2 := t0) (x := .val (.str [41])) (y := .val (.int V)) (by simp [exec, execs, ev, evs, evo, evrs, evt, evtb, evts, evit, evb, rdArg, rdPlace, readV, Place.get, Place.set, Arg.get, getAll, Res.bind, Res.then, RS.seq, lift, prim, prim1, prim2, binD, cmpD, ixD, slD, lenP, lenD, intD, negD, bindTo, assign, assigns, fin, derefS, gc, fit_str, fit_int, D.eqv, truthD, Cell.view, isList, mutC, mrecv, mprim, mprim2, mprim3, augD, toCell, Option.bind, fromF, isiP, isiD, tupleD, listD, seqOf, noX, iterD, isSh]) (by simp [rdArg, t0]) rfl rfl (show prim2 (.bin .Mult) _ _ = _ from b2)
  have p3 := ev_pr2 (P := prog tb 59) (p := .bin .Add) (b := .v 4) (s := t0) (s1 := t0) (s2 := t0) (y := .val (.str (wi z))) (rd_of p1) (by simp [rdArg, t0]) rfl rfl (show prim2 (.bin .Add) _ _ = _ from b3)
  have p4 := ev_pr2 (P := prog tb 59) (p := .bin .Add) (s := t0) (s1 := t0) (s2 := t0) (rd_of p3) (rd_of p2) rfl rfl (show prim2 (.bin .Add) _ _ = _ from b4)
  have s3 := exec_set (i := 9) p4
  rw [seq_next s1, seq_next s2, one_stmt s3]
  unfold est
  rw [hV]
  simp [bindTo, t0]
theorem s_q8 (ns : List Int) (st : DS) (a2 a5 a6 a7 : Slot) (z : Int) (hz : z.natAbs < 10 ^ 180) (dp : Nat) (h1 : 20 < dp) (h2 : dp ≤ 22) : ∃ s : Sta, s.S = [st.cell] ∧ exec (prog tb 59) q8 (est ns st a2 z a5 a6 a7 dp (List.replicate dp 40 ++ wi z ++ List.replicate dp 41) .no) = .ret false (.bl true) s := by
  have hl := wi_len hz
  have n2 : nl 9700 (List.replicate dp 40 ++ List.replicate dp 41) = true := by rw [nl_open, nl_close]
  have r1 : rd (List.replicate dp 40 ++ wi z ++ List.replicate dp 41) = none := by
    rw [List.append_assoc]
    exact rd_none (M_deep dp _ _ _ _ (by simpa using h1) (by simp))
  have r2 : rd (List.replicate dp 40 ++ List.replicate dp 41) = none := rd_none (M_deep dp _ _ _ _ (by simpa using h1) (by simp))
  have e1 : (prog tb 59).call 14 [.fn 5, .str (List.replicate dp 40 ++ wi z ++ List.replicate dp 41)] [st.cell] = .ok false (.bl true) [st.cell] := refused 58 5 [st.cell] _ (by
    have := read_data 55 [st.cell] (okS_st st) _ (nl_nest z hz dp) (by simp; omega)
    rw [r1] at this
    exact this)
  have e2 : (prog tb 59).call 14 [.fn 5, .str (List.replicate dp 40 ++ List.replicate dp 41)] [st.cell] = .ok false (.bl true) [st.cell] := refused 58 5 [st.cell] _ (by
    have := read_data 55 [st.cell] (okS_st st) _ n2 (by simp; omega)
    rw [r2] at this
    exact this)
  have f1 := rep_flat dp 40
  have f2 := rep_flat dp 41
  have g0 : (1 : Nat) * dp ≤ LIM := Nat.le_trans (by omega : 1 * dp ≤ 100) (by decide)
  have g0' : dp ≤ LIM := by omega
  have g1 : dp + dp ≤ LIM := Nat.le_trans (by omega : dp + dp ≤ 1000) (by decide)
  have hV : (20 : Int) < (dp : Int) := by omega
  refine ⟨est ns st a2 z a5 a6 a7 dp (List.replicate dp 40 ++ wi z ++ List.replicate dp 41) .no, rfl, ?_⟩
  unfold est
  generalize List.replicate dp 40 ++ wi z ++ List.replicate dp 41 = nt at *
  generalize wi z = w at *
  have h3 : (dp : Int).natAbs < 1073741824 := by omega
  have h4 : dp < 1073741824 := by omega
  simp [exec, execs, ev, evs, evo, evrs, evt, evtb, evts, evit, evb, rdArg, rdPlace, readV, Place.get, Place.set, Arg.get, getAll, Res.bind, Res.then, RS.seq, lift, prim, prim1, prim2, binD, cmpD, ixD, slD, lenP, lenD, intD, negD, bindTo, assign, assigns, fin, derefS, gc, fit_str, fit_int, D.eqv, truthD, Cell.view, isList, mutC, mrecv, mprim, mprim2, mprim3, augD, toCell, Option.bind, fromF, isiP, isiD, tupleD, listD, seqOf, noX, iterD, isSh, hV, e1, f1, f2, g0, g0', g1, h3, h4, e2]
theorem s_end (ns : List Int) (st : DS) (a2 a5 a6 a7 : Slot) (z : Int) (hz : z.natAbs < 10 ^ 180) (dp : Nat) (h1 : dp ≤ 20) : ∃ s : Sta, s.S = [st.cell] ∧ execs (prog tb 59) [q8, q9, q10, q11] (est ns st a2 z a5 a6 a7 dp (List.replicate dp 40 ++ wi z ++ List.replicate dp 41) .no) = .ret false (.bl true) s := by
  obtain ⟨k1, k2, k3⟩ := nst_ok z hz dp
  have hl := wi_len hz
  have ew := nst_wr z dp
  have hh := nst_hi z dp
  have hlen : (wr (K57.nst z dp)).length ≤ 1000 := by rw [ew]; simp; omega
  have hn := nl_nest z hz dp
  have e1 : (prog tb 59).call 5 [.str (wr (K57.nst z dp))] [st.cell] = .ok false (toD (K57.nst z dp)) [st.cell] := by
    have := read_data 56 [st.cell] (okS_st st) (wr (K57.nst z dp)) (by rw [ew]; exact hn) (by omega)
    rw [rd_wr _ k1 (by omega)] at this
    exact this
  have e2 : (prog tb 59).call 10 [toD (K57.nst z dp), toD (K57.nst z dp)] [st.cell] = .ok false (.bl true) [st.cell] := same_D [st.cell] 20 37 _ (by omega) k2
  have e3 : (prog tb 59).call 2 [toD (K57.nst z dp)] [st.cell] = .ok false (.str (wr (K57.nst z dp))) [st.cell] := write_data [st.cell] 20 36 _ (by omega) k3 (Nat.le_trans hlen (by decide))
  have e4 : (prog tb 59).call 10 [.str (wr (K57.nst z dp)), .str (wr (K57.nst z dp))] [st.cell] = .ok false (.bl true) [st.cell] := same_str 58 _ _
  obtain ⟨a10, kl⟩ := kloop ns st a2 a6 a7 z dp (wr (K57.nst z dp)) dp 0 0 .no
  rw [Nat.zero_add] at kl
  rw [← ew]
  have hV : ¬ (20 : Int) < (dp : Int) := by omega
  have s8 : exec (prog tb 59) q8 (est ns st a2 z a5 a6 a7 dp (wr (K57.nst z dp)) .no) = .next (est ns st a2 z a5 a6 a7 dp (wr (K57.nst z dp)) .no) := exec_if_false (s1 := est ns st a2 z a5 a6 a7 dp (wr (K57.nst z dp)) .no) (by
    unfold est
    generalize wr (K57.nst z dp) = nt
    generalize wi z = w
    simp [exec, execs, ev, evs, evo, evrs, evt, evtb, evts, evit, evb, rdArg, rdPlace, readV, Place.get, Place.set, Arg.get, getAll, Res.bind, Res.then, RS.seq, lift, prim, prim1, prim2, binD, cmpD, ixD, slD, lenP, lenD, intD, negD, bindTo, assign, assigns, fin, derefS, gc, fit_str, fit_int, D.eqv, truthD, Cell.view, isList, mutC, mrecv, mprim, mprim2, mprim3, augD, toCell, Option.bind, fromF, isiP, isiD, tupleD, listD, seqOf, noX, iterD, isSh]
    omega) execs_nil
  have s9 : exec (prog tb 59) q9 (est ns st a2 z a5 a6 a7 dp (wr (K57.nst z dp)) .no) = .next (est ns st a2 z (.sh (toD (K57.nst z 0))) a6 a7 dp (wr (K57.nst z dp)) .no) := by
    unfold est
    generalize wr (K57.nst z dp) = nt
    generalize wi z = w
    simp [exec, execs, ev, evs, evo, evrs, evt, evtb, evts, evit, evb, rdArg, rdPlace, readV, Place.get, Place.set, Arg.get, getAll, Res.bind, Res.then, RS.seq, lift, prim, prim1, prim2, binD, cmpD, ixD, slD, lenP, lenD, intD, negD, bindTo, assign, assigns, fin, derefS, gc, fit_str, fit_int, D.eqv, truthD, Cell.view, isList, mutC, mrecv, mprim, mprim2, mprim3, augD, toCell, Option.bind, fromF, isiP, isiD, tupleD, listD, seqOf, noX, iterD, isSh, K57.nst, toD]
  have s10 : exec (prog tb 59) q10 (est ns st a2 z (.sh (toD (K57.nst z 0))) a6 a7 dp (wr (K57.nst z dp)) .no) = .next (est ns st a2 z (.sh (toD (K57.nst z dp))) a6 a7 dp (wr (K57.nst z dp)) a10) := by
    refine (exec_fr (evit_rng (ds := [.int dp]) (by
      unfold est
      generalize wr (K57.nst z dp) = nt
      generalize toD (K57.nst z 0) = t
      generalize wi z = w
      simp [exec, execs, ev, evs, evo, evrs, evt, evtb, evts, evit, evb, rdArg, rdPlace, readV, Place.get, Place.set, Arg.get, getAll, Res.bind, Res.then, RS.seq, lift, prim, prim1, prim2, binD, cmpD, ixD, slD, lenP, lenD, intD, negD, bindTo, assign, assigns, fin, derefS, gc, fit_str, fit_int, D.eqv, truthD, Cell.view, isList, mutC, mrecv, mprim, mprim2, mprim3, augD, toCell, Option.bind, fromF, isiP, isiD, tupleD, listD, seqOf, noX, iterD, isSh]) ?_)).trans kl
    simp only [rangeD]
    rw [if_pos (by unfold RLIM; omega)]
    simp
  refine ⟨est ns st a2 z (.sh (toD (K57.nst z dp))) a6 a7 dp (wr (K57.nst z dp)) a10, rfl, ?_⟩
  rw [seq_next s8, seq_next s9, seq_next s10]
  unfold est
  generalize wr (K57.nst z dp) = nt at *
  generalize toD (K57.nst z dp) = t at *
  generalize wi z = w at *
  simp [exec, execs, ev, evs, evo, evrs, evt, evtb, evts, evit, evb, rdArg, rdPlace, readV, Place.get, Place.set, Arg.get, getAll, Res.bind, Res.then, RS.seq, lift, prim, prim1, prim2, binD, cmpD, ixD, slD, lenP, lenD, intD, negD, bindTo, assign, assigns, fin, derefS, gc, fit_str, fit_int, D.eqv, truthD, Cell.view, isList, mutC, mrecv, mprim, mprim2, mprim3, augD, toCell, Option.bind, fromF, isiP, isiD, tupleD, listD, seqOf, noX, iterD, isSh, e1, e2, e3, e4]
/-- the law -/
theorem plain : ∀ ns : List Int, ns.length ≤ 63 → ∃ S, Z.Phi tb 60 17 [.scr ns] [] = .ok false (.bl true) S := by
  intro ns _
  have e0 : (prog tb 59).call 6 [.scr ns] [] = .ok false (.ref 0) [DS.cell ⟨ns, 0, 0, 0⟩] := start_ok 58 ns
  obtain ⟨z1, st1, b2, b5, b6, hz1, e1⟩ := tall ns ⟨ns, 0, 0, 0⟩
  obtain ⟨G, hG1, hG2, e2⟩ := s_q12 ns st1 z1 hz1 b2 b5 b6
  obtain ⟨G', c2, hG3, hG4, e3⟩ := gloop ns st1 (.sh (.int z1)) (.sh (.str (wi z1))) b5 280 0 G b2 hG1 (by decide) (by simpa using hG2)
  have e4 := s_q4 ns st1 c2 (.sh (.int z1)) (.sh (.str (wi z1))) b5 G' hG4
  obtain ⟨dp, z2, st2, hd1, hd2, hz2, e5⟩ := s_q567 ns st1 c2 (.sh (.int z1)) (.sh (.str (wi z1))) b5 (.sh (.str (digits G'))) (.sh (.int G'))
  have t1 : exec (prog tb 59) (.set 1 (.call 6 [(.v 0)])) ⟨[.sh (.scr ns), .no, .no, .no, .no, .no, .no, .no, .no, .no, .no], []⟩ = .next (lst0 ns ⟨ns, 0, 0, 0⟩ .no .no .no .no .no) := by
    simp [exec, execs, ev, evs, evo, evrs, evt, evtb, evts, evit, evb, rdArg, rdPlace, readV, Place.get, Place.set, Arg.get, getAll, Res.bind, Res.then, RS.seq, lift, prim, prim1, prim2, binD, cmpD, ixD, slD, lenP, lenD, intD, negD, bindTo, assign, assigns, fin, derefS, gc, fit_str, fit_int, D.eqv, truthD, Cell.view, isList, mutC, mrecv, mprim, mprim2, mprim3, augD, toCell, Option.bind, fromF, isiP, isiD, tupleD, listD, seqOf, noX, iterD, isSh, e0, lst0]
  have t2 : exec (prog tb 59) (.fr (.v 2) (.rng [(.lit (.int 4))]) (lB1 ++ (lB2 ++ (lB3 ++ lB4)))) (lst0 ns ⟨ns, 0, 0, 0⟩ .no .no .no .no .no) = .next (lst0 ns st1 b2 (.sh (.int z1)) (.sh (.str (wi z1))) b5 b6) :=
    (exec_fr (evit_rng (ds := [.int 4]) (by simp [exec, execs, ev, evs, evo, evrs, evt, evtb, evts, evit, evb, rdArg, rdPlace, readV, Place.get, Place.set, Arg.get, getAll, Res.bind, Res.then, RS.seq, lift, prim, prim1, prim2, binD, cmpD, ixD, slD, lenP, lenD, intD, negD, bindTo, assign, assigns, fin, derefS, gc, fit_str, fit_int, D.eqv, truthD, Cell.view, isList, mutC, mrecv, mprim, mprim2, mprim3, augD, toCell, Option.bind, fromF, isiP, isiD, tupleD, listD, seqOf, noX, iterD, isSh]) (by simp [rangeD, RLIM]))).trans e1
  have t3 : exec (prog tb 59) q3 (gst ns st1 b2 (.sh (.int z1)) (.sh (.str (wi z1))) b5 G) = .next (gst ns st1 c2 (.sh (.int z1)) (.sh (.str (wi z1))) b5 G') :=
    (exec_fr (evit_rng (ds := [.int 280]) (by simp [exec, execs, ev, evs, evo, evrs, evt, evtb, evts, evit, evb, rdArg, rdPlace, readV, Place.get, Place.set, Arg.get, getAll, Res.bind, Res.then, RS.seq, lift, prim, prim1, prim2, binD, cmpD, ixD, slD, lenP, lenD, intD, negD, bindTo, assign, assigns, fin, derefS, gc, fit_str, fit_int, D.eqv, truthD, Cell.view, isList, mutC, mrecv, mprim, mprim2, mprim3, augD, toCell, Option.bind, fromF, isiP, isiD, tupleD, listD, seqOf, noX, iterD, isSh]) (by simp [rangeD, RLIM]))).trans e3
  have main : ∃ s : Sta, s.S = [st2.cell] ∧ execs (prog tb 59) f17.body ⟨[.sh (.scr ns), .no, .no, .no, .no, .no, .no, .no, .no, .no, .no], []⟩ = .ret false (.bl true) s := by
    show ∃ s : Sta, s.S = [st2.cell] ∧ execs (prog tb 59) ((.set 1 (.call 6 [(.v 0)])) :: (.fr (.v 2) (.rng [(.lit (.int 4))]) (lB1 ++ (lB2 ++ (lB3 ++ lB4)))) :: ([q1, q2] ++ (q3 :: q4 :: ([q5, q6, q7] ++ [q8, q9, q10, q11])))) _ = _
    rw [seq_next t1, seq_next t2, execs_app _ _ _ _ e2, seq_next t3, seq_next e4]
    rw [show gst ns st1 c2 (.sh (.int z1)) (.sh (.str (wi z1))) b5 G' = ⟨[.sh (.scr ns), .sh (.ref 0), c2, .sh (.int z1), .sh (.str (wi z1)), b5, .sh (.str (digits G')), .sh (.int G'), .no, .no, .no], [st1.cell]⟩ from rfl]
    rw [execs_app _ _ _ _ e5]
    by_cases h : dp ≤ 20
    · exact s_end ns st2 c2 b5 _ _ z2 hz2 dp h
    · obtain ⟨s, hs, e⟩ := s_q8 ns st2 c2 b5 (.sh (.str (digits G'))) (.sh (.int G')) z2 hz2 dp (by omega) hd2
      exact ⟨s, hs, seq_ret e⟩
  obtain ⟨s, hs, e⟩ := main
  refine ⟨gc 0 [.bl true] s.S, ?_⟩
  rw [phi_succ (fn := f17) rfl rfl (by decide)]
  show fin 0 (execs (prog tb 59) f17.body ⟨[.sh (.scr ns), .no, .no, .no, .no, .no, .no, .no, .no, .no, .no], []⟩) = _
  rw [e]
  rfl
end K57

set_option Elab.async false
set_option linter.all false
set_option maxRecDepth 100000
set_option maxHeartbeats 8000000
namespace K57
open PySem PySem.Spec PyProof.Rows L2
theorem all_mk {w : World} {K : PySem.W.Frag} {h : Heap} {mg : Str → Option Value} {fa a0 a1 a2 a3 a4 a5 a6 a7 a8 a9 a10 a11 a12 a13 a14 a15 a16 a17 C0 C1 : Addr} (X : K.In h) (G : h.Ns mainGlobals mg) (hfa : mg "law" = some (.ref fa))
    {od0 an0 : Option Addr} {sl0 : Array (Option Value)} {oc0 kV0 dc0 pm0 cd0 ct0 : Value}
    {od1 an1 : Option Addr} {sl1 : Array (Option Value)} {oc1 kV1 dc1 pm1 cd1 ct1 : Value}
    {od2 an2 : Option Addr} {sl2 : Array (Option Value)} {oc2 kV2 dc2 pm2 cd2 ct2 : Value}
    {od3 an3 : Option Addr} {sl3 : Array (Option Value)} {oc3 kV3 dc3 pm3 cd3 ct3 : Value}
    {od4 an4 : Option Addr} {sl4 : Array (Option Value)} {oc4 kV4 dc4 pm4 cd4 ct4 : Value}
    {od5 an5 : Option Addr} {sl5 : Array (Option Value)} {oc5 kV5 dc5 pm5 cd5 ct5 : Value}
    {od6 an6 : Option Addr} {sl6 : Array (Option Value)} {oc6 kV6 dc6 pm6 cd6 ct6 : Value}
    {od7 an7 : Option Addr} {sl7 : Array (Option Value)} {oc7 kV7 dc7 pm7 cd7 ct7 : Value}
    {od8 an8 : Option Addr} {sl8 : Array (Option Value)} {oc8 kV8 dc8 pm8 cd8 ct8 : Value}
    {od9 an9 : Option Addr} {sl9 : Array (Option Value)} {oc9 kV9 dc9 pm9 cd9 ct9 : Value}
    {od10 an10 : Option Addr} {sl10 : Array (Option Value)} {oc10 kV10 dc10 pm10 cd10 ct10 : Value}
    {od11 an11 : Option Addr} {sl11 : Array (Option Value)} {oc11 kV11 dc11 pm11 cd11 ct11 : Value}
    {od12 an12 : Option Addr} {sl12 : Array (Option Value)} {oc12 kV12 dc12 pm12 cd12 ct12 : Value}
    {od13 an13 : Option Addr} {sl13 : Array (Option Value)} {oc13 kV13 dc13 pm13 cd13 ct13 : Value}
    {od14 an14 : Option Addr} {sl14 : Array (Option Value)} {oc14 kV14 dc14 pm14 cd14 ct14 : Value}
    {od15 an15 : Option Addr} {sl15 : Array (Option Value)} {oc15 kV15 dc15 pm15 cd15 ct15 : Value}
    {od16 an16 : Option Addr} {sl16 : Array (Option Value)} {oc16 kV16 dc16 pm16 cd16 ct16 : Value}
    {od17 an17 : Option Addr} {sl17 : Array (Option Value)} {oc17 kV17 dc17 pm17 cd17 ct17 : Value}
    {tk0 tk1 tk2 tk3 : Nat}
    (e0 : PySem.W.nsIn K mainGlobals "write_integer" = some (some (.ref a0))) (l0 : K.lookup a0 = some ⟨oc0, od0, .func (PySem.W.fnOf "write_integer" "write_integer" (defArgs s0) (defBody s0) (defScope s0) .none kV0 dc0 pm0 an0 cd0 ct0), sl0⟩) (b0 : PySem.W.codeIn K cd0 "write_integer" = true) (k0 : PySem.W.keepIn K (.ref a0) = true)
    (e1 : PySem.W.nsIn K mainGlobals "read_integer" = some (some (.ref a1))) (l1 : K.lookup a1 = some ⟨oc1, od1, .func (PySem.W.fnOf "read_integer" "read_integer" (defArgs s1) (defBody s1) (defScope s1) .none kV1 dc1 pm1 an1 cd1 ct1), sl1⟩) (b1 : PySem.W.codeIn K cd1 "read_integer" = true) (k1 : PySem.W.keepIn K (.ref a1) = true)
    (e2 : PySem.W.nsIn K mainGlobals "write_data" = some (some (.ref a2))) (l2 : K.lookup a2 = some ⟨oc2, od2, .func (PySem.W.fnOf "write_data" "write_data" (defArgs s2) (defBody s2) (defScope s2) .none kV2 dc2 pm2 an2 cd2 ct2), sl2⟩) (b2 : PySem.W.codeIn K cd2 "write_data" = true) (k2 : PySem.W.keepIn K (.ref a2) = true)
    (e3 : PySem.W.nsIn K mainGlobals "plain_text" = some (some (.ref a3))) (l3 : K.lookup a3 = some ⟨oc3, od3, .func (PySem.W.fnOf "plain_text" "plain_text" (defArgs s3) (defBody s3) (defScope s3) .none kV3 dc3 pm3 an3 cd3 ct3), sl3⟩) (b3 : PySem.W.codeIn K cd3 "plain_text" = true) (k3 : PySem.W.keepIn K (.ref a3) = true)
    (e4 : PySem.W.nsIn K mainGlobals "read_plain" = some (some (.ref a4))) (l4 : K.lookup a4 = some ⟨oc4, od4, .func (PySem.W.fnOf "read_plain" "read_plain" (defArgs s4) (defBody s4) (defScope s4) .none kV4 dc4 pm4 an4 cd4 ct4), sl4⟩) (b4 : PySem.W.codeIn K cd4 "read_plain" = true) (k4 : PySem.W.keepIn K (.ref a4) = true)
    (e5 : PySem.W.nsIn K mainGlobals "read_data" = some (some (.ref a5))) (l5 : K.lookup a5 = some ⟨oc5, od5, .func (PySem.W.fnOf "read_data" "read_data" (defArgs s5) (defBody s5) (defScope s5) .none kV5 dc5 pm5 an5 cd5 ct5), sl5⟩) (b5 : PySem.W.codeIn K cd5 "read_data" = true) (k5 : PySem.W.keepIn K (.ref a5) = true)
    (e6 : PySem.W.nsIn K mainGlobals "_law_start" = some (some (.ref a6))) (l6 : K.lookup a6 = some ⟨oc6, od6, .func (PySem.W.fnOf "_law_start" "_law_start" (defArgs s6) (defBody s6) (defScope s6) .none kV6 dc6 pm6 an6 cd6 ct6), sl6⟩) (b6 : PySem.W.codeIn K cd6 "_law_start" = true) (k6 : PySem.W.keepIn K (.ref a6) = true)
    (e7 : PySem.W.nsIn K mainGlobals "_law_draw" = some (some (.ref a7))) (l7 : K.lookup a7 = some ⟨oc7, od7, .func (PySem.W.fnOf "_law_draw" "_law_draw" (defArgs s7) (defBody s7) (defScope s7) .none kV7 dc7 pm7 an7 cd7 ct7), sl7⟩) (b7 : PySem.W.codeIn K cd7 "_law_draw" = true) (k7 : PySem.W.keepIn K (.ref a7) = true)
    (e8 : PySem.W.nsIn K mainGlobals "_law_one_of" = some (some (.ref a8))) (l8 : K.lookup a8 = some ⟨oc8, od8, .func (PySem.W.fnOf "_law_one_of" "_law_one_of" (defArgs s8) (defBody s8) (defScope s8) .none kV8 dc8 pm8 an8 cd8 ct8), sl8⟩) (b8 : PySem.W.codeIn K cd8 "_law_one_of" = true) (k8 : PySem.W.keepIn K (.ref a8) = true)
    (e9 : PySem.W.nsIn K mainGlobals "_law_is_int" = some (some (.ref a9))) (l9 : K.lookup a9 = some ⟨oc9, od9, .func (PySem.W.fnOf "_law_is_int" "_law_is_int" (defArgs s9) (defBody s9) (defScope s9) .none kV9 dc9 pm9 an9 cd9 ct9), sl9⟩) (b9 : PySem.W.codeIn K cd9 "_law_is_int" = true) (k9 : PySem.W.keepIn K (.ref a9) = true)
    (e10 : PySem.W.nsIn K mainGlobals "_law_same" = some (some (.ref a10))) (l10 : K.lookup a10 = some ⟨oc10, od10, .func (PySem.W.fnOf "_law_same" "_law_same" (defArgs s10) (defBody s10) (defScope s10) .none kV10 dc10 pm10 an10 cd10 ct10), sl10⟩) (b10 : PySem.W.codeIn K cd10 "_law_same" = true) (k10 : PySem.W.keepIn K (.ref a10) = true)
    (e11 : PySem.W.nsIn K mainGlobals "_law_integer_drawn" = some (some (.ref a11))) (l11 : K.lookup a11 = some ⟨oc11, od11, .func (PySem.W.fnOf "_law_integer_drawn" "_law_integer_drawn" (defArgs s11) (defBody s11) (defScope s11) .none kV11 dc11 pm11 an11 cd11 ct11), sl11⟩) (b11 : PySem.W.codeIn K cd11 "_law_integer_drawn" = true) (k11 : PySem.W.keepIn K (.ref a11) = true)
    (e12 : PySem.W.nsIn K mainGlobals "_law_text_drawn" = some (some (.ref a12))) (l12 : K.lookup a12 = some ⟨oc12, od12, .func (PySem.W.fnOf "_law_text_drawn" "_law_text_drawn" (defArgs s12) (defBody s12) (defScope s12) .none kV12 dc12 pm12 an12 cd12 ct12), sl12⟩) (b12 : PySem.W.codeIn K cd12 "_law_text_drawn" = true) (k12 : PySem.W.keepIn K (.ref a12) = true)
    (e13 : PySem.W.nsIn K mainGlobals "_law_datum_drawn" = some (some (.ref a13))) (l13 : K.lookup a13 = some ⟨oc13, od13, .func (PySem.W.fnOf "_law_datum_drawn" "_law_datum_drawn" (defArgs s13) (defBody s13) (defScope s13) .none kV13 dc13 pm13 an13 cd13 ct13), sl13⟩) (b13 : PySem.W.codeIn K cd13 "_law_datum_drawn" = true) (k13 : PySem.W.keepIn K (.ref a13) = true)
    (e14 : PySem.W.nsIn K mainGlobals "_law_is_refused" = some (some (.ref a14))) (l14 : K.lookup a14 = some ⟨oc14, od14, .func (PySem.W.fnOf "_law_is_refused" "_law_is_refused" (defArgs s14) (defBody s14) (defScope s14) .none kV14 dc14 pm14 an14 cd14 ct14), sl14⟩) (b14 : PySem.W.codeIn K cd14 "_law_is_refused" = true) (k14 : PySem.W.keepIn K (.ref a14) = true)
    (e15 : PySem.W.nsIn K mainGlobals "_law_bad_integers" = some (some (.ref a15))) (l15 : K.lookup a15 = some ⟨oc15, od15, .func (PySem.W.fnOf "_law_bad_integers" "_law_bad_integers" (defArgs s15) (defBody s15) (defScope s15) .none kV15 dc15 pm15 an15 cd15 ct15), sl15⟩) (b15 : PySem.W.codeIn K cd15 "_law_bad_integers" = true) (k15 : PySem.W.keepIn K (.ref a15) = true)
    (e16 : PySem.W.nsIn K mainGlobals "_law_bad_data" = some (some (.ref a16))) (l16 : K.lookup a16 = some ⟨oc16, od16, .func (PySem.W.fnOf "_law_bad_data" "_law_bad_data" (defArgs s16) (defBody s16) (defScope s16) .none kV16 dc16 pm16 an16 cd16 ct16), sl16⟩) (b16 : PySem.W.codeIn K cd16 "_law_bad_data" = true) (k16 : PySem.W.keepIn K (.ref a16) = true)
    (e17 : PySem.W.nsIn K mainGlobals "law" = some (some (.ref a17))) (l17 : K.lookup a17 = some ⟨oc17, od17, .func (PySem.W.fnOf "law" "law" (defArgs s17) (defBody s17) (defScope s17) .none kV17 dc17 pm17 an17 cd17 ct17), sl17⟩) (b17 : PySem.W.codeIn K cd17 "law" = true) (k17 : PySem.W.keepIn K (.ref a17) = true)
    (gv0 : PySem.W.nsIn K mainGlobals "BASE" = some (some (.int 10000000000000000000000000000000000000000000000000000000000000000 tk0)))
    (gv1 : PySem.W.nsIn K mainGlobals "DIGITS" = some (some (.str "0123456789" tk1)))
    (gv2 : PySem.W.nsIn K mainGlobals "DEPTH" = some (some (.int 20 tk2)))
    (gv3 : PySem.W.nsIn K mainGlobals "SIGNS" = some (some (.str "-0123456789" tk3)))
    (x0 : PySem.W.nsIn K mainGlobals "OnlywhatmattersError" = some (some (.ref C0))) (xk0 : PySem.W.keepIn K (.ref C0) = true) (xb0 : PySem.W.subIn K (.ref C0) (.type "BaseException") = some true) (xt0 : PySem.W.typeIn K (.ref C0) = some (.type "type"))
    (xg0 : PySem.W.findIn K (.ref C0) "__getattribute__" = some (some (.builtin "BaseException.__getattribute__"))) (xh0 : PySem.W.findIn K (.ref C0) "__getattr__" = some none) (xd0 : PySem.W.hasDictIn K C0 = true) (xa0 : PySem.W.findIn K (.ref C0) "__class__" = some (some (.builtin "object.__class__"))) (xm0 : PySem.W.mroIn K C0 (.type "object") = some true)
    (xo0 : PySem.W.excIn K C0 [.type "ValueError", .type "Exception", .type "BaseException", .type "object"] "ValueError.__new__" = true)
    (x1 : PySem.W.nsIn K mainGlobals "BadText" = some (some (.ref C1))) (xk1 : PySem.W.keepIn K (.ref C1) = true) (xb1 : PySem.W.subIn K (.ref C1) (.type "BaseException") = some true) (xt1 : PySem.W.typeIn K (.ref C1) = some (.type "type"))
    (xg1 : PySem.W.findIn K (.ref C1) "__getattribute__" = some (some (.builtin "BaseException.__getattribute__"))) (xh1 : PySem.W.findIn K (.ref C1) "__getattr__" = some none) (xd1 : PySem.W.hasDictIn K C1 = true) (xa1 : PySem.W.findIn K (.ref C1) "__class__" = some (some (.builtin "object.__class__"))) (xm1 : PySem.W.mroIn K C1 (.type "object") = some true)
    (xo1 : PySem.W.excIn K C1 [.type "ValueError", .type "Exception", .type "BaseException", .type "object"] "ValueError.__new__" = true)
    (xn : PySem.W.specialIn K (.builtin "object.__class__") "__get__" = some (some (.builtin "getset_descriptor.__get__"))) (xp : PySem.W.takesIn K (.builtin "object.__class__") = some true)
    (y0_0 : PySem.W.subIn K (.ref C0) (.ref C0) = some true) (z0_0 : PySem.W.kitOne K (.ref C0) (.ref C0) = some true)
    (y1_0 : PySem.W.subIn K (.ref C1) (.ref C0) = some true) (z1_0 : PySem.W.kitOne K (.ref C1) (.ref C0) = some true)
    (y0_1 : PySem.W.subIn K (.ref C0) (.ref C1) = some false) (z0_1 : PySem.W.kitOne K (.ref C0) (.ref C1) = some false)
    (y1_1 : PySem.W.subIn K (.ref C1) (.ref C1) = some true) (z1_1 : PySem.W.kitOne K (.ref C1) (.ref C1) = some true)
    (n_len : PySem.W.nsIn K mainGlobals "len" = some none)
    (n_abs : PySem.W.nsIn K mainGlobals "abs" = some none)
    (n_tuple : PySem.W.nsIn K mainGlobals "tuple" = some none)
    (n_list : PySem.W.nsIn K mainGlobals "list" = some none)
    (n_int : PySem.W.nsIn K mainGlobals "int" = some none)
    (n_str : PySem.W.nsIn K mainGlobals "str" = some none)
    (n_ord : PySem.W.nsIn K mainGlobals "ord" = some none)
    (n_all : PySem.W.nsIn K mainGlobals "all" = some none)
    (n_any : PySem.W.nsIn K mainGlobals "any" = some none)
    (n_sum : PySem.W.nsIn K mainGlobals "sum" = some none)
    (n_divmod : PySem.W.nsIn K mainGlobals "divmod" = some none)
    (n_sorted : PySem.W.nsIn K mainGlobals "sorted" = some none)
    (n_isinstance : PySem.W.nsIn K mainGlobals "isinstance" = some none)
    (n_range : PySem.W.nsIn K mainGlobals "range" = some none)
    (n_enumerate : PySem.W.nsIn K mainGlobals "enumerate" = some none)
    (n_zip : PySem.W.nsIn K mainGlobals "zip" = some none)
    (n_bool : PySem.W.nsIn K mainGlobals "bool" = some none)
    (n_dict : PySem.W.nsIn K mainGlobals "dict" = some none)
    : ∃ fd : FuncData, (∀ (s : Shared) (v : Value), BindsTo s fd ⟨[v], []⟩ [("script", v)]) ∧ ∀ base : Heap, K.In base → base.Ns mainGlobals mg → FnOk (PySem.Challenge.rw_onlywhatmatters_k57_integers_and_data).prog w K mg base (L2.CX (PySem.Challenge.rw_onlywhatmatters_k57_integers_and_data).prog w) 120 fa fd ["script"] (Z.spLaw K) := by
  have e := hfa.symm.trans (PySem.W.mg_of X G e17)
  cases e
  let W : Z.Wo := ⟨K, fun i => ([a0, a1, a2, a3, a4, a5, a6, a7, a8, a9, a10, a11, a12, a13, a14, a15, a16, fa] : List Addr)[i]?, fun _ => none, fun c => ([C0, C1] : List Addr)[c]?, fun _ => Str.empty⟩
  have D : ∀ f fn, tb.fns[f]? = some fn → Z.DefF W nm tb K mg f fn := fun f fn hf => by
    match f, hf with
    | 0, hf => cases hf; exact Z.def_mk (ps := P0) (N := N0) (st := s0) X G e0 l0 b0 k0 rfl rfl (fun _ _ _ _ _ _ us hl => match us, hl with | [_], _ => rfl) rfl rfl rfl (Z.scope_of o0) c0
    | 1, hf => cases hf; exact Z.def_mk (ps := P1) (N := N1) (st := s1) X G e1 l1 b1 k1 rfl rfl (fun _ _ _ _ _ _ us hl => match us, hl with | [_], _ => rfl) rfl rfl rfl (Z.scope_of o1) c1
    | 2, hf => cases hf; exact Z.def_mk (ps := P2) (N := N2) (st := s2) X G e2 l2 b2 k2 rfl rfl (fun _ _ _ _ _ _ us hl => match us, hl with | [_], _ => rfl) rfl rfl rfl (Z.scope_of o2) c2
    | 3, hf => cases hf; exact Z.def_mk (ps := P3) (N := N3) (st := s3) X G e3 l3 b3 k3 rfl rfl (fun _ _ _ _ _ _ us hl => match us, hl with | [_], _ => rfl) rfl rfl rfl (Z.scope_of o3) c3
    | 4, hf => cases hf; exact Z.def_mk (ps := P4) (N := N4) (st := s4) X G e4 l4 b4 k4 rfl rfl (fun _ _ _ _ _ _ us hl => match us, hl with | [_, _], _ => rfl) rfl rfl rfl (Z.scope_of o4) c4
    | 5, hf => cases hf; exact Z.def_mk (ps := P5) (N := N5) (st := s5) X G e5 l5 b5 k5 rfl rfl (fun _ _ _ _ _ _ us hl => match us, hl with | [_], _ => rfl) rfl rfl rfl (Z.scope_of o5) c5
    | 6, hf => cases hf; exact Z.def_mk (ps := P6) (N := N6) (st := s6) X G e6 l6 b6 k6 rfl rfl (fun _ _ _ _ _ _ us hl => match us, hl with | [_], _ => rfl) rfl rfl rfl (Z.scope_of o6) c6
    | 7, hf => cases hf; exact Z.def_mk (ps := P7) (N := N7) (st := s7) X G e7 l7 b7 k7 rfl rfl (fun _ _ _ _ _ _ us hl => match us, hl with | [_, _], _ => rfl) rfl rfl rfl (Z.scope_of o7) c7
    | 8, hf => cases hf; exact Z.def_mk (ps := P8) (N := N8) (st := s8) X G e8 l8 b8 k8 rfl rfl (fun _ _ _ _ _ _ us hl => match us, hl with | [_, _], _ => rfl) rfl rfl rfl (Z.scope_of o8) c8
    | 9, hf => cases hf; exact Z.def_mk (ps := P9) (N := N9) (st := s9) X G e9 l9 b9 k9 rfl rfl (fun _ _ _ _ _ _ us hl => match us, hl with | [_], _ => rfl) rfl rfl rfl (Z.scope_of o9) c9
    | 10, hf => cases hf; exact Z.def_mk (ps := P10) (N := N10) (st := s10) X G e10 l10 b10 k10 rfl rfl (fun _ _ _ _ _ _ us hl => match us, hl with | [_, _], _ => rfl) rfl rfl rfl (Z.scope_of o10) c10
    | 11, hf => cases hf; exact Z.def_mk (ps := P11) (N := N11) (st := s11) X G e11 l11 b11 k11 rfl rfl (fun _ _ _ _ _ _ us hl => match us, hl with | [_], _ => rfl) rfl rfl rfl (Z.scope_of o11) c11
    | 12, hf => cases hf; exact Z.def_mk (ps := P12) (N := N12) (st := s12) X G e12 l12 b12 k12 rfl rfl (fun _ _ _ _ _ _ us hl => match us, hl with | [_], _ => rfl) rfl rfl rfl (Z.scope_of o12) c12
    | 13, hf => cases hf; exact Z.def_mk (ps := P13) (N := N13) (st := s13) X G e13 l13 b13 k13 rfl rfl (fun _ _ _ _ _ _ us hl => match us, hl with | [_, _], _ => rfl) rfl rfl rfl (Z.scope_of o13) c13
    | 14, hf => cases hf; exact Z.def_mk (ps := P14) (N := N14) (st := s14) X G e14 l14 b14 k14 rfl rfl (fun _ _ _ _ _ _ us hl => match us, hl with | [_, _], _ => rfl) rfl rfl rfl (Z.scope_of o14) c14
    | 15, hf => cases hf; exact Z.def_mk (ps := P15) (N := N15) (st := s15) X G e15 l15 b15 k15 rfl rfl (fun _ _ _ _ _ _ us hl => match us, hl with | [_], _ => rfl) rfl rfl rfl (Z.scope_of o15) c15
    | 16, hf => cases hf; exact Z.def_mk (ps := P16) (N := N16) (st := s16) X G e16 l16 b16 k16 rfl rfl (fun _ _ _ _ _ _ us hl => match us, hl with | [_, _], _ => rfl) rfl rfl rfl (Z.scope_of o16) c16
    | 17, hf => cases hf; exact Z.def_mk (ps := P17) (N := N17) (st := s17) X G e17 l17 b17 k17 rfl rfl (fun _ _ _ _ _ _ us hl => match us, hl with | [_], _ => rfl) rfl rfl rfl (Z.scope_of o17) c17
    | j + 18, hf => simp [tb] at hf
  have EX : Z.ExF W nm tb K mg :=
    { xa := fun c C h => by
        match c, h with
        | 0, _ => exact ⟨_, rfl⟩
        | 1, _ => exact ⟨_, rfl⟩
        | j + 2, h => simp [W] at h
      cls := fun c x h => by
        match c, h with
        | 0, h => cases h; exact ⟨C0, rfl, PySem.W.mg_of X G x0, xk0, xb0, xt0, ⟨xg0, xh0, xb0, xd0, xa0, xn, xp, xm0⟩⟩
        | 1, h => cases h; exact ⟨C1, rfl, PySem.W.mg_of X G x1, xk1, xb1, xt1, ⟨xg1, xh1, xb1, xd1, xa1, xn, xp, xm1⟩⟩
        | j + 2, h => simp [nm] at h
      own := fun c C hc h => by
        match c, hc, h with
        | 0, _, h => cases h; exact ⟨_, _, _, _, PySem.F.excBase_ValueError, xo0⟩
        | 1, _, h => cases h; exact ⟨_, _, _, _, PySem.F.excBase_ValueError, xo1⟩
        | j + 2, _, h => simp [W] at h
      sub := fun c c' C C' h h' => by
        match c, c', h, h' with
        | 0, 0, h, h' => cases h; cases h'; exact ⟨PySem.W.exm_ref xb0 xd0 xt0 y0_0, z0_0⟩
        | 0, 1, h, h' => cases h; cases h'; exact ⟨PySem.W.exm_ref xb0 xd0 xt0 y1_0, z1_0⟩
        | 1, 0, h, h' => cases h; cases h'; exact ⟨PySem.W.exm_ref xb1 xd1 xt1 y0_1, z0_1⟩
        | 1, 1, h, h' => cases h; cases h'; exact ⟨PySem.W.exm_ref xb1 xd1 xt1 y1_1, z1_1⟩
        | 0, j + 2, _, h' => simp [W] at h'
        | 1, j + 2, _, h' => simp [W] at h'
        | j + 2, _, h, _ => simp [W] at h }
  have F : Z.Fac W nm tb K mg :=
    { eK := rfl, flen := rfl
      gls := fun n d h => by
        match n, h with
        | 0, h => cases h; exact ⟨_, _, .int 10000000000000000000000000000000000000000000000000000000000000000, rfl, PySem.W.mg_of X G gv0, ⟨_, rfl⟩, fun G => Z.rep_int⟩
        | 1, h => cases h; exact ⟨_, _, .str "0123456789", rfl, PySem.W.mg_of X G gv1, ⟨_, rfl⟩, fun G => Z.rep_strE ⟨by decide, by decide⟩ (by decide +kernel)⟩
        | 2, h => cases h; exact ⟨_, _, .int 20, rfl, PySem.W.mg_of X G gv2, ⟨_, rfl⟩, fun G => Z.rep_int⟩
        | 3, h => cases h; exact ⟨_, _, .str "-0123456789", rfl, PySem.W.mg_of X G gv3, ⟨_, rfl⟩, fun G => Z.rep_strE ⟨by decide, by decide⟩ (by decide +kernel)⟩
        | j + 4, h => simp [tb, gls] at h
      blt := fun x hx => by
        simp only [Z.bltNames, List.mem_cons, List.not_mem_nil, or_false] at hx
        rcases hx with rfl | rfl | rfl | rfl | rfl | rfl | rfl | rfl | rfl | rfl | rfl | rfl | rfl | rfl | rfl | rfl | rfl | rfl
        · exact PySem.W.mg_none_of X G n_len
        · exact PySem.W.mg_none_of X G n_abs
        · exact PySem.W.mg_none_of X G n_tuple
        · exact PySem.W.mg_none_of X G n_list
        · exact PySem.W.mg_none_of X G n_int
        · exact PySem.W.mg_none_of X G n_str
        · exact PySem.W.mg_none_of X G n_ord
        · exact PySem.W.mg_none_of X G n_all
        · exact PySem.W.mg_none_of X G n_any
        · exact PySem.W.mg_none_of X G n_sum
        · exact PySem.W.mg_none_of X G n_divmod
        · exact PySem.W.mg_none_of X G n_sorted
        · exact PySem.W.mg_none_of X G n_isinstance
        · exact PySem.W.mg_none_of X G n_range
        · exact PySem.W.mg_none_of X G n_enumerate
        · exact PySem.W.mg_none_of X G n_zip
        · exact PySem.W.mg_none_of X G n_bool
        · exact PySem.W.mg_none_of X G n_dict
      fa := fun f a h => by
        have := (List.getElem?_eq_some_iff.mp h).1
        simpa [tb] using this
      exc := EX }
  have B := fun base : Heap => Z.all_ok (P := (PySem.Challenge.rw_onlywhatmatters_k57_integers_and_data).prog) (w := w) (base := base) F D 60 17 f17 rfl
  have BI : ∀ us : List Value, us.length = (["script"] : List Str).length → bindArgs (PySem.W.fnOf "law" "law" (defArgs s17) (defBody s17) (defScope s17) .none kV17 dc17 pm17 an17 cd17 ct17) ⟨us, []⟩ = pure ((["script"] : List Str).zip us) := fun us hl => match us, hl with | [_], _ => rfl
  refine ⟨PySem.W.fnOf "law" "law" (defArgs s17) (defBody s17) (defScope s17) .none kV17 dc17 pm17 an17 cd17 ct17, fun s v => .of_eq (BI [v] rfl), fun base hk hg => ?_⟩
  exact Z.law_end (B base) l17 rfl rfl rfl plain
end K57
open PySem PySem.W PyProof.Rows
set_option maxRecDepth 100000 in
set_option maxHeartbeats 0 in
theorem PySem.Challenge.cw_onlywhatmatters_k57_integers_and_data_holds : PySem.Challenge.rw_onlywhatmatters_k57_integers_and_data.Holds := by
  w_on; o_law; k_head; (case hw => w_witness2)
  k_fill
  refine Z.walk (l := PySem.Challenge.rw_onlywhatmatters_k57_integers_and_data) (kk := 120) rfl rfl ⟨rfl, by decide, by decide⟩ (fun w h Y => PySem.W.kIn_of Y) ?F
  case F =>
    intro w mg fa h KX G hmg
    refine' K57.all_mk KX G hmg ?e0 ?l0 ?b0 ?k0 ?e1 ?l1 ?b1 ?k1 ?e2 ?l2 ?b2 ?k2 ?e3 ?l3 ?b3 ?k3 ?e4 ?l4 ?b4 ?k4 ?e5 ?l5 ?b5 ?k5 ?e6 ?l6 ?b6 ?k6 ?e7 ?l7 ?b7 ?k7 ?e8 ?l8 ?b8 ?k8 ?e9 ?l9 ?b9 ?k9 ?e10 ?l10 ?b10 ?k10 ?e11 ?l11 ?b11 ?k11 ?e12 ?l12 ?b12 ?k12 ?e13 ?l13 ?b13 ?k13 ?e14 ?l14 ?b14 ?k14 ?e15 ?l15 ?b15 ?k15 ?e16 ?l16 ?b16 ?k16 ?e17 ?l17 ?b17 ?k17 ?gv0 ?gv1 ?gv2 ?gv3 ?x0 ?xk0 ?xb0 ?xt0 ?xg0 ?xh0 ?xd0 ?xa0 ?xm0 ?xo0 ?x1 ?xk1 ?xb1 ?xt1 ?xg1 ?xh1 ?xd1 ?xa1 ?xm1 ?xo1 ?xn ?xp ?y0_0 ?z0_0 ?y1_0 ?z1_0 ?y0_1 ?z0_1 ?y1_1 ?z1_1 ?n_len ?n_abs ?n_tuple ?n_list ?n_int ?n_str ?n_ord ?n_all ?n_any ?n_sum ?n_divmod ?n_sorted ?n_isinstance ?n_range ?n_enumerate ?n_zip ?n_bool ?n_dict
    (case e0 => k_is)
    (case l0 => k_is)
    (case b0 => k_is)
    (case k0 => k_is)
    (case e1 => k_is)
    (case l1 => k_is)
    (case b1 => k_is)
    (case k1 => k_is)
    (case e2 => k_is)
    (case l2 => k_is)
    (case b2 => k_is)
    (case k2 => k_is)
    (case e3 => k_is)
    (case l3 => k_is)
    (case b3 => k_is)
    (case k3 => k_is)
    (case e4 => k_is)
    (case l4 => k_is)
    (case b4 => k_is)
    (case k4 => k_is)
    (case e5 => k_is)
    (case l5 => k_is)
    (case b5 => k_is)
    (case k5 => k_is)
    (case e6 => k_is)
    (case l6 => k_is)
    (case b6 => k_is)
    (case k6 => k_is)
    (case e7 => k_is)
    (case l7 => k_is)
    (case b7 => k_is)
    (case k7 => k_is)
    (case e8 => k_is)
    (case l8 => k_is)
    (case b8 => k_is)
    (case k8 => k_is)
    (case e9 => k_is)
    (case l9 => k_is)
    (case b9 => k_is)
    (case k9 => k_is)
    (case e10 => k_is)
    (case l10 => k_is)
    (case b10 => k_is)
    (case k10 => k_is)
    (case e11 => k_is)
    (case l11 => k_is)
    (case b11 => k_is)
    (case k11 => k_is)
    (case e12 => k_is)
    (case l12 => k_is)
    (case b12 => k_is)
    (case k12 => k_is)
    (case e13 => k_is)
    (case l13 => k_is)
    (case b13 => k_is)
    (case k13 => k_is)
    (case e14 => k_is)
    (case l14 => k_is)
    (case b14 => k_is)
    (case k14 => k_is)
    (case e15 => k_is)
    (case l15 => k_is)
    (case b15 => k_is)
    (case k15 => k_is)
    (case e16 => k_is)
    (case l16 => k_is)
    (case b16 => k_is)
    (case k16 => k_is)
    (case e17 => k_is)
    (case l17 => k_is)
    (case b17 => k_is)
    (case k17 => k_is)
    (case gv0 => k_is)
    (case gv1 => k_is)
    (case gv2 => k_is)
    (case gv3 => k_is)
    (case x0 => k_is)
    (case xk0 => k_is)
    (case xb0 => k_is)
    (case xt0 => k_is)
    (case xg0 => k_is)
    (case xh0 => k_is)
    (case xd0 => k_is)
    (case xa0 => k_is)
    (case xm0 => k_is)
    (case xo0 => k_exc)
    (case x1 => k_is)
    (case xk1 => k_is)
    (case xb1 => k_is)
    (case xt1 => k_is)
    (case xg1 => k_is)
    (case xh1 => k_is)
    (case xd1 => k_is)
    (case xa1 => k_is)
    (case xm1 => k_is)
    (case xo1 => k_exc)
    (case xn => k_is)
    (case xp => k_is)
    (case y0_0 => first | rfl | k_is)
    (case z0_0 => first | rfl | k_is)
    (case y1_0 => first | rfl | k_is)
    (case z1_0 => first | rfl | k_is)
    (case y0_1 => first | rfl | k_is)
    (case z0_1 => first | rfl | k_is)
    (case y1_1 => first | rfl | k_is)
    (case z1_1 => first | rfl | k_is)
    (case n_len => k_is)
    (case n_abs => k_is)
    (case n_tuple => k_is)
    (case n_list => k_is)
    (case n_int => k_is)
    (case n_str => k_is)
    (case n_ord => k_is)
    (case n_all => k_is)
    (case n_any => k_is)
    (case n_sum => k_is)
    (case n_divmod => k_is)
    (case n_sorted => k_is)
    (case n_isinstance => k_is)
    (case n_range => k_is)
    (case n_enumerate => k_is)
    (case n_zip => k_is)
    (case n_bool => k_is)
    (case n_dict => k_is)
