import PyProof.Rows.All
import Wide.All
import OpenK.AllK
import Wide.FinOn
import PySem.Syntax
import HandS.ForMost
import HandS.Exc
import HandS.TryOnly
import HandS.ExcOwn
import HandS.CallLocal
import HandS.StrMore
import HandS.Wide
import HandS.WideBits
import HandS.TupAny
import HandS.Flow
import HandS.Style
import HandS.ExcSuper
import HandS.More
import HandS.IsInst
import HandS.ExcIs
import PyProof.AutoSeq1
import HandS.Comp
import HandS.Iter
import HandS.Zip
import HandS.DictComp
import HandS.Small
import HandS.WordsExc
import HandS.Ends
import PySem.Challenge.RW_onlywhatmatters_k62_candidates
set_option Elab.async false
set_option linter.all false
set_option maxRecDepth 100000
/-! ZCore: an abstract domain, a small language of statements over it, and its interpreter. -/
namespace Z
open PySem (Operator CmpOp)

/-- a datum: lists and dicts here are those that change no more; ref: a cell; fn: a def -/
inductive D where
  | non | bl (b : Bool) | int (i : Int) | str (x : List Nat) | tup (ds : List D) | lst (ds : List D) | dct (ks vs : List D) | ref (n : Nat) | fn (f : Nat) | scr (ns : List Int)
  deriving Inhabited
/-- what may change: a list, a dict, an instance -/
inductive Cell where
  | L (ds : List D) | M (ks vs : List D) | I (c : Nat) (fs : List (Nat × D))
  deriving Inhabited
/-- a name's slot: nothing, a datum, an object that only this name knows -/
inductive Slot where
  | no | sh (d : D) | own (c : Cell)
  deriving Inhabited
structure Sta where
  σ : List Slot
  S : List Cell
inductive Exn where
  | mk (c : Nat) (ds : List D)
inductive Res (α : Type) where
  | ok (a : α) (s : Sta) | exn (x : Exn) (s : Sta) | stuck
inductive FRes where
  | ok (o : Bool) (d : D) (S : List Cell) | exn (x : Exn) (S : List Cell) | stuck
inductive RS where
  | next (s : Sta) | brk (s : Sta) | cnt (s : Sta) | ret (o : Bool) (d : D) (s : Sta) | exn (x : Exn) (s : Sta) | stuck

def Res.bind {α β : Type} (r : Res α) (f : α → Sta → Res β) : Res β :=
  match r with
  | .ok a s => f a s
  | .exn x s => .exn x s
  | .stuck => .stuck
def Res.then {α : Type} (r : Res α) (f : α → Sta → RS) : RS :=
  match r with
  | .ok a s => f a s
  | .exn x s => .exn x s
  | .stuck => .stuck
def RS.seq (r : RS) (f : Sta → RS) : RS :=
  match r with
  | .next s => f s
  | r => r

def Cell.view : Cell → Option D
  | .L ds => some (.lst ds)
  | .M ks vs => some (.dct ks vs)
  | .I _ _ => none
/-- an operand: a value, or an object that the name i alone knows -/
inductive Arg where
  | val (d : D) | slot (i : Nat)
def derefS (S : List Cell) : D → Option D
  | .ref n => (S[n]?).bind Cell.view
  | d => some d
def Arg.get (s : Sta) : Arg → Option D
  | .val d => derefS s.S d
  | .slot i => match s.σ[i]? with
    | some (.own c) => c.view
    | some (.sh d) => derefS s.S d
    | _ => none
def getAll (s : Sta) : List Arg → Option (List D)
  | [] => some []
  | a :: as => match a.get s, getAll s as with
    | some d, some ds => some (d :: ds)
    | _, _ => none

/-! ### operations on data -/
def LIM : Nat := 16777216
inductive Ty where
  | int | bool | str | tuple | list | dict
  deriving DecidableEq
inductive Prim where
  | bin (op : Operator) | cmp (op : CmpOp) | neg | ix | rev
  | len | abs | tupleOf | listOf | intOf | strOf | ordOf | allOf | anyOf | divmodOf | sumOf | isi (t : Ty) | sortedOf
  | isNone (neg : Bool)
inductive MPrim where
  | join | zfill | find3 | get1 | get2 | index | startswith
inductive Mut where
  | append | pop | extend | insert | popAt
  deriving DecidableEq

mutual
/-- no ref, no fn, no dict within -/
def D.plain : D → Bool
  | .non => true
  | .bl _ => true
  | .int _ => true
  | .str _ => true
  | .tup ds => plains ds
  | .lst ds => plains ds
  | _ => false
def plains : List D → Bool
  | [] => true
  | d :: ds => d.plain && plains ds
end
def b2i (b : Bool) : Int := if b then 1 else 0
mutual
/-- Python's == on plain data -/
def D.eqv : D → D → Bool
  | .non, .non => true
  | .bl a, .bl b => a == b
  | .bl a, .int b => b2i a == b
  | .int a, .bl b => a == b2i b
  | .int a, .int b => a == b
  | .str a, .str b => a == b
  | .tup a, .tup b => eqvs a b
  | .lst a, .lst b => eqvs a b
  | _, _ => false
def eqvs : List D → List D → Bool
  | [], [] => true
  | a :: as, b :: bs => a.eqv b && eqvs as bs
  | _, _ => false
end
mutual
def D.deep : D → Nat
  | .tup ds => deeps ds + 1
  | .lst ds => deeps ds + 1
  | _ => 0
def deeps : List D → Nat
  | [] => 0
  | d :: ds => max d.deep (deeps ds)
end
/-- flat: the deepest that == looks at -/
def D.fit (d : D) : Bool := d.plain && decide (d.deep ≤ 64)

def divOk (j : Int) : Bool := decide (0 < j) && (decide (j < 1073741824) || decide (j.natAbs.log2 < 9000))
def mulOk (i j : Int) : Bool := decide (i.natAbs < 18446744073709551616) || decide (j.natAbs < 18446744073709551616) || decide (i.natAbs.log2 + j.natAbs.log2 < 900000)
def binD : Operator → D → D → Option (Bool × D)
  | .Add, .int i, .int j => some (false, .int (i + j))
  | .Add, .str x, .str y => if x.length + y.length ≤ LIM then some (false, .str (x ++ y)) else none
  | .Add, .tup x, .tup y => if x.length + y.length ≤ LIM then some (false, .tup (x ++ y)) else none
  | .Add, .lst x, .lst y => if x.length + y.length ≤ LIM then some (true, .lst (x ++ y)) else none
  | .Sub, .int i, .int j => some (false, .int (i - j))
  | .Mult, .int i, .int j => if mulOk i j then some (false, .int (i * j)) else none
  | .Mult, .str x, .int j => if x.length * j.toNat ≤ LIM ∧ j.natAbs < 1073741824 then some (false, .str (List.replicate j.toNat x).flatten) else none
  | .Mult, .lst x, .int j => if x.length * j.toNat ≤ LIM ∧ j.natAbs < 1073741824 then some (true, .lst (List.replicate j.toNat x).flatten) else none
  | .FloorDiv, .int i, .int j => if divOk j then some (false, .int (i / j)) else none
  | .Mod, .int i, .int j => if 0 < j then some (false, .int (i % j)) else none
  | .Pow, .int i, .int j => if 0 ≤ j ∧ j ≤ 1000000 ∧ i.natAbs < 18446744073709551616 then some (false, .int (i ^ j.toNat)) else none
  | _, _, _ => none
def ltL : List Nat → List Nat → Bool
  | [], [] => false
  | [], _ :: _ => true
  | _ :: _, [] => false
  | a :: as, b :: bs => if a = b then ltL as bs else decide (a < b)
def memD (x : D) (ds : List D) : Bool := ds.any fun z => z.eqv x
def keyOk : D → Bool
  | .int _ => true
  | .str _ => true
  | _ => false
def lookD : List D → List D → D → Option D
  | k :: ks, v :: vs, x => if k.eqv x then some v else lookD ks vs x
  | _, _, _ => none
def inD (x : D) : D → Option Bool
  | .lst ds => if x.fit && plains ds && decide (deeps ds ≤ 63) then some (memD x ds) else none
  | .tup ds => if x.fit && plains ds && decide (deeps ds ≤ 63) then some (memD x ds) else none
  | .str z => match x with
    | .str [c] => some (decide (c ∈ z))
    | _ => none
  | .dct ks vs => if keyOk x then some (lookD ks vs x).isSome else none
  | _ => none
def cmpD : CmpOp → D → D → Option (Bool × D)
  | .Eq, x, y => if x.fit && y.fit then some (false, .bl (x.eqv y)) else none
  | .NotEq, x, y => if x.fit && y.fit then some (false, .bl (!x.eqv y)) else none
  | .Lt, .int i, .int j => some (false, .bl (decide (i < j)))
  | .LtE, .int i, .int j => some (false, .bl (decide (i ≤ j)))
  | .Gt, .int i, .int j => some (false, .bl (decide (j < i)))
  | .GtE, .int i, .int j => some (false, .bl (decide (j ≤ i)))
  | .Lt, .str i, .str j => some (false, .bl (ltL i j))
  | .Gt, .str i, .str j => some (false, .bl (ltL j i))
  | .In, x, y => (inD x y).map fun b => (false, .bl b)
  | .NotIn, x, y => (inD x y).map fun b => (false, .bl (!b))
  | _, _, _ => none
/-- the place of an index -/
def ixN (n : Nat) (i : Int) : Option Nat := if 0 ≤ i then (if i < n then some i.toNat else none) else if -(n : Int) ≤ i then some (i + n).toNat else none
def atI {α : Type} (xs : List α) (i : Int) : Option α := (ixN xs.length i).bind fun j => xs[j]?
def ixD : D → D → Option (Bool × D)
  | .lst ds, .int i => (atI ds i).map fun d => (false, d)
  | .tup ds, .int i => (atI ds i).map fun d => (false, d)
  | .str x, .int i => (atI x i).map fun c => (false, .str [c])
  | .dct ks vs, k => if keyOk k then (lookD ks vs k).map fun d => (false, d) else none
  | _, _ => none
def sIx (n d : Nat) : Option Int → Nat
  | none => d
  | some v => if v < 0 then (max (v + n) 0).toNat else (min v n).toNat
def cut {α : Type} (xs : List α) (lo hi : Option Int) : List α := (xs.drop (sIx xs.length 0 lo)).take (sIx xs.length xs.length hi - sIx xs.length 0 lo)
def slD (x : D) (lo hi : Option Int) : Option (Bool × D) := match x with
  | .lst ds => some (true, .lst (cut ds lo hi))
  | .tup ds => some (false, .tup (cut ds lo hi))
  | .str x => some (false, .str (cut x lo hi))
  | _ => none
def lenD : D → Option Nat
  | .lst ds => some ds.length
  | .tup ds => some ds.length
  | .str x => some x.length
  | .dct ks _ => some ks.length
  | _ => none
/-- the decimal digits -/
def digits (n : Nat) : List Nat := (Nat.toDigits 10 n).map Char.toNat
def allDig (x : List Nat) : Bool := x.all fun c => decide (48 ≤ c ∧ c ≤ 57)
def digVal (x : List Nat) : Nat := x.foldl (fun a c => a * 10 + (c - 48)) 0
def allB : List D → Option Bool
  | [] => some true
  | .bl b :: r => (allB r).map fun c => b && c
  | _ => none
def anyB : List D → Option Bool
  | [] => some false
  | .bl b :: r => (anyB r).map fun c => b || c
  | _ => none
def sumI : List D → Option Int
  | [] => some 0
  | .int i :: r => (sumI r).map fun c => i + c
  | _ => none
def strsOf : List D → Option (List (List Nat))
  | [] => some []
  | .str x :: r => (strsOf r).map fun c => x :: c
  | _ => none
def isiD : Ty → D → Option Bool
  | .int, .int _ => some true
  | .int, .bl _ => some true
  | .bool, .bl _ => some true
  | .str, .str _ => some true
  | .tuple, .tup _ => some true
  | .list, .lst _ => some true
  | .dict, .dct _ _ => some true
  | _, .fn _ => none
  | _, .ref _ => none
  | _, .scr _ => none
  | _, .dct _ _ => none
  | _, _ => some false
def txtB (x : List Nat) : Bool := decide (x.length ≤ LIM) && x.all fun c => decide (c < 1114112)
def insL (x : List Nat) : List (List Nat) → List (List Nat)
  | [] => [x]
  | y :: r => if ltL y x then y :: insL x r else x :: y :: r
def sortL : List (List Nat) → List (List Nat)
  | [] => []
  | x :: r => insL x (sortL r)
def truthD : D → Option Bool
  | .non => some false
  | .bl b => some b
  | .int i => some (i != 0)
  | .str x => some (!x.isEmpty)
  | .tup ds => some (!ds.isEmpty)
  | .lst ds => some (!ds.isEmpty)
  | .dct ks _ => some (!ks.isEmpty)
  | _ => none
def seqOf : D → Option (List D)
  | .lst ds => some ds
  | .tup ds => some ds
  | _ => none
def negD : D → Option (Bool × D)
  | .int i => some (false, .int (-i))
  | _ => none
def revD : D → Option (Bool × D)
  | .lst ds => some (true, .lst ds.reverse)
  | _ => none
def lenP (x : D) : Option (Bool × D) := match lenD x with
  | some n => some (false, .int n)
  | none => none
def absD : D → Option (Bool × D)
  | .int i => some (false, .int (if i < 0 then -i else i))
  | _ => none
def tupleD (x : D) : Option (Bool × D) := match seqOf x with
  | some ds => some (false, .tup ds)
  | none => none
def listD : D → Option (Bool × D)
  | .scr ns => some (true, .lst (ns.map .int))
  | .lst ds => some (true, .lst ds)
  | .tup ds => some (true, .lst ds)
  | _ => none
def intD : D → Option (Bool × D)
  | .int i => some (false, .int i)
  | .bl b => some (false, .int (b2i b))
  | .str x => if allDig x ∧ x ≠ [] ∧ x.length ≤ 640 then some (false, .int (digVal x)) else none
  | _ => none
def strD : D → Option (Bool × D)
  | .int i => if 0 ≤ i ∧ i.natAbs.log2 < 1920 then some (false, .str (digits i.natAbs)) else none
  | _ => none
def ordD : D → Option (Bool × D)
  | .str [c] => some (false, .int c)
  | _ => none
def allD : D → Option (Bool × D)
  | .lst ds => match allB ds with
    | some b => some (false, .bl b)
    | none => none
  | _ => none
def anyD : D → Option (Bool × D)
  | .lst ds => match anyB ds with
    | some b => some (false, .bl b)
    | none => none
  | _ => none
def sumD : D → Option (Bool × D)
  | .lst ds => match sumI ds with
    | some i => some (false, .int i)
    | none => none
  | _ => none
def divmodD : D → D → Option (Bool × D)
  | .int i, .int j => if divOk j then some (false, .tup [.int (i / j), .int (i % j)]) else none
  | _, _ => none
def isiP (t : Ty) (x : D) : Option (Bool × D) := match isiD t x with
  | some b => some (false, .bl b)
  | none => none
def noneD (n : Bool) : D → Option (Bool × D)
  | .non => some (false, .bl (!n))
  | _ => some (false, .bl n)
def sortedD : D → Option (Bool × D)
  | .lst ds => match strsOf ds with
    | some xs => if xs.length < 64 then some (true, .lst ((sortL xs).map D.str)) else none
    | none => none
  | .dct ks _ => match strsOf ks with
    | some xs => if xs.length < 64 ∧ xs.all txtB = true then some (true, .lst ((sortL xs).map D.str)) else none
    | none => none
  | _ => none
def prim1 : Prim → D → Option (Bool × D)
  | .neg, x => negD x
  | .rev, x => revD x
  | .len, x => lenP x
  | .abs, x => absD x
  | .tupleOf, x => tupleD x
  | .listOf, x => listD x
  | .intOf, x => intD x
  | .strOf, x => strD x
  | .ordOf, x => ordD x
  | .allOf, x => allD x
  | .anyOf, x => anyD x
  | .sumOf, x => sumD x
  | .isi t, x => isiP t x
  | .isNone n, x => noneD n x
  | .sortedOf, x => sortedD x
  | _, _ => none
def prim2 : Prim → D → D → Option (Bool × D)
  | .bin op, x, y => binD op x y
  | .cmp op, x, y => cmpD op x y
  | .ix, x, y => ixD x y
  | .divmodOf, x, y => divmodD x y
  | _, _, _ => none
def prim (p : Prim) (ds : List D) : Option (Bool × D) := match ds with
  | [x] => prim1 p x
  | [x, y] => prim2 p x y
  | _ => none
def joinL (sep : List Nat) : List (List Nat) → List Nat
  | [] => []
  | [x] => x
  | x :: r => x ++ sep ++ joinL sep r
def joinLen (sep : List Nat) (xs : List (List Nat)) : Nat := (xs.map fun x => x.length + sep.length).sum
def findN (c : Nat) : List Nat → Option Nat
  | [] => none
  | x :: r => if x = c then some 0 else match findN c r with
    | some k => some (k + 1)
    | none => none
def joinD : D → D → Option (Bool × D)
  | .str sep, x => match seqOf x with
    | some ds => match strsOf ds with
      | some xs => if joinLen sep xs ≤ LIM then some (false, .str (joinL sep xs)) else none
      | none => none
    | none => none
  | _, _ => none
def zfillD : D → D → Option (Bool × D)
  | .str x, .int n => if allDig x ∧ 0 ≤ n ∧ n ≤ 1000000 then some (false, .str (List.replicate (n.toNat - x.length) 48 ++ x)) else none
  | _, _ => none
def find3D : D → D → D → Option (Bool × D)
  | .str x, .str y, .int i => match y with
    | [c] => if 0 ≤ i then some (false, .int (match findN c (x.drop i.toNat) with
      | some k => (i.toNat + k : Nat)
      | none => -1)) else none
    | _ => none
  | _, _, _ => none
def flatD : D → Bool
  | .lst _ => false
  | .dct _ _ => false
  | _ => true
def get1D : D → D → Option (Bool × D)
  | .dct ks vs, k => if keyOk k then some (false, (lookD ks vs k).getD .non) else none
  | _, _ => none
def get2D : D → D → D → Option (Bool × D)
  | .dct ks vs, k, d => if keyOk k && flatD d then some (false, (lookD ks vs k).getD d) else none
  | _, _, _ => none
/-- a method of a text, a list, a dict that changes nothing: the receiver first -/
def mprim2 : MPrim → D → D → Option (Bool × D)
  | .join, o, x => joinD o x
  | .zfill, o, x => zfillD o x
  | .get1, o, x => get1D o x
  | _, _, _ => none
def mprim3 : MPrim → D → D → D → Option (Bool × D)
  | .find3, o, x, y => find3D o x y
  | .get2, o, x, y => get2D o x y
  | _, _, _, _ => none
def mprim (m : MPrim) (ds : List D) : Option (Bool × D) := match ds with
  | [o, x] => mprim2 m o x
  | [o, x, y] => mprim3 m o x y
  | _ => none
/-- the receiver's type -/
def mrecv : MPrim → D → Bool
  | .join, .str _ => true
  | .zfill, .str _ => true
  | .find3, .str _ => true
  | .get1, .dct _ _ => true
  | .get2, .dct _ _ => true
  | _, _ => false
def repD : List D → List D → D → D → List D
  | k :: ks, v :: vs, x, d => (if k.eqv x then d else v) :: repD ks vs x d
  | _, _, _, _ => []
def putD (ks vs : List D) (x d : D) : List D × List D :=
  if (lookD ks vs x).isSome then (ks, repD ks vs x d) else (ks ++ [x], vs ++ [d])
/-- op=, of ints -/
def augD : Operator → D → D → Option D
  | .Add, .int i, .int j => some (.int (i + j))
  | .Sub, .int i, .int j => some (.int (i - j))
  | _, _, _ => none
def appendC : Cell → D → Option (Cell × D)
  | .L ds, d => if ds.length < LIM then some (.L (ds ++ [d]), .non) else none
  | _, _ => none
def extendC : Cell → D → Option (Cell × D)
  | .L ds, x => match seqOf x with
    | some es => if ds.length + es.length ≤ LIM then some (.L (ds ++ es), .non) else none
    | none => none
  | _, _ => none
def popC : Cell → Option (Cell × D)
  | .L ds => match ds.getLast? with
    | some d => some (.L ds.dropLast, d)
    | none => none
  | _ => none
def insertC : Cell → D → D → Option (Cell × D)
  | .L ds, .int i, d => if ds.length < LIM ∧ 0 ≤ i ∧ i < 4611686018427387904 then some (.L (ds.take i.toNat ++ [d] ++ ds.drop i.toNat), .non) else none
  | _, _, _ => none
/-- a method that changes its receiver -/
def mutC (m : Mut) (c : Cell) (ds : List D) : Option (Cell × D) := match m, ds with
  | .append, [d] => appendC c d
  | .extend, [x] => extendC c x
  | .pop, [] => popC c
  | .insert, [i, d] => insertC c i d
  | _, _ => none
/-- o[i] = v -/
def putC : Cell → D → D → Option Cell
  | .L ds, .int i, d => (ixN ds.length i).map fun j => .L (ds.set j d)
  | .M ks vs, k, d => if keyOk k ∧ ks.length < LIM then some (.M (putD ks vs k d).1 (putD ks vs k d).2) else none
  | _, _, _ => none
def getC (c : Cell) (k : D) : Option D := match c.view with
  | some d => (ixD d k).map (·.2)
  | none => none

/-! ### the language -/
inductive Tg where
  | v (i : Nat) | tup (ts : List Tg)
mutual
inductive E where
  | v (i : Nat) | lit (d : D) | g (n : Nat) | fn (f : Nat)
  | pr (p : Prim) (es : List E) | sl (a : E) (lo hi : Option E)
  | mp (m : MPrim) (o : E) (es : List E)
  | mu (m : Mut) (o : E) (es : List E)
  | tup (es : List E) | lst (es : List E) | dct (ks : List D) (vs : List E)
  | cell (e : E)
  | call (f : Nat) (es : List E) | callv (i : Nat) (es : List E)
  | notV (e : E) | bopV (b : Bool) (es : List E) | ite (t : T) (a b : E)
  | comp (tg : Tg) (vs : List Nat) (it : It) (ifs : List T) (e : E)
  | dcomp (tg : Tg) (vs : List Nat) (it : It) (ifs : List T) (k e : E)
  | kin (neg : Bool) (g : Nat) (e : E) | kix (g : Nat) (e : E)
  | fld (o : E) (f : Nat) | mk (c : Nat) (es : List E) | mc (o : E) (m : Nat) (es : List E)
inductive T where
  | cmp (op : CmpOp) (a b : E) | e (a : E) | not (t : T) | bop (b : Bool) (ts : List T) | kin (neg : Bool) (g : Nat) (a : E) | isN (neg : Bool) (a : E)
inductive It where
  | seq (e : E) | rng (es : List E) | enum (e : E) | zip (a b : E)
end
inductive Suite where
  | isi (c : Nat) | lit (d : D) | cat (x : List Nat) (f : Nat)
inductive S where
  | set (i : Nat) (e : E) | setT (t : Tg) (e : E) | aug (i : Nat) (op : Operator) (e : E)
  | put (o k e : E) | putA (o k : E) (op : Operator) (e : E)
  | fset (o : E) (f : Nat) (e : E) | fsetA (o : E) (f : Nat) (op : Operator) (e : E)
  | ret (e : E) | retN | ife (t : T) (a b : List S) | whl (t : T) (b : List S) | fr (tg : Tg) (it : It) (b : List S)
  | brk | cnt | pass | exp (e : E) | rais (c : Nat) (es : List E) | tryE (b : List S) (c : Nat) (i : Nat) (su : Suite)

/-! ### the interpreter -/
structure Prog where
  call : Nat → List D → List Cell → FRes
  glob : Nat → Option D
  init : Nat → Option Nat
  meth : Nat → Nat → Option Nat
  sub : Nat → Nat → Bool
  flds : Nat → List Nat
  kd : Nat → List (List Nat × Option Int)
/-- a name read as a value: what it alone knew is known to others from now on, and changes no more -/
def readV (i : Nat) (s : Sta) : Res (Bool × D) := match s.σ[i]? with
  | some (.sh d) => .ok (false, d) s
  | some (.own c) => match c.view with
    | some d => .ok (false, d) { s with σ := s.σ.set i (.sh d) }
    | none => .stuck
  | _ => .stuck
/-- an operand -/
def rdArg (e : E) (f : Sta → Res (Bool × D)) (s : Sta) : Res Arg := match e with
  | .v i => match s.σ[i]? with
    | some (.sh d) => .ok (.val d) s
    | some (.own _) => .ok (.slot i) s
    | _ => .stuck
  | _ => (f s).bind fun x s1 => .ok (.val x.2) s1
/-- a place that may change: a name's own object, or a cell -/
inductive Place where
  | slot (i : Nat) | cell (n : Nat)
def rdPlace (e : E) (f : Sta → Res (Bool × D)) (s : Sta) : Res Place := match e with
  | .v i => match s.σ[i]? with
    | some (.sh (.ref n)) => .ok (.cell n) s
    | some (.own _) => .ok (.slot i) s
    | _ => .stuck
  | _ => (f s).bind fun x s1 => match x.2 with
    | .ref n => .ok (.cell n) s1
    | _ => .stuck
def Place.get (s : Sta) : Place → Option Cell
  | .slot i => match s.σ[i]? with
    | some (.own c) => some c
    | _ => none
  | .cell n => s.S[n]?
def Place.set (s : Sta) (c : Cell) : Place → Sta
  | .slot i => { s with σ := s.σ.set i (.own c) }
  | .cell n => { s with S := s.S.set n c }
def isList : Option Cell → Bool
  | some (.L _) => true
  | _ => false
def lift {α : Type} (o : Option α) (s : Sta) : Res α := match o with
  | some a => .ok a s
  | none => .stuck
def fromF (σ : List Slot) : FRes → Res (Bool × D)
  | .ok o d S => .ok (o, d) ⟨σ, S⟩
  | .exn x S => .exn x ⟨σ, S⟩
  | .stuck => .stuck
def toCell : D → Option Cell
  | .lst ds => some (.L ds)
  | .dct ks vs => some (.M ks vs)
  | _ => none
mutual
def assign : Tg → D → List Slot → Option (List Slot)
  | .v i, d, σ => if i < σ.length then some (σ.set i (.sh d)) else none
  | .tup ts, d, σ => match d with
    | .tup ds => assigns ts ds σ
    | _ => none
def assigns : List Tg → List D → List Slot → Option (List Slot)
  | [], [], σ => some σ
  | t :: ts, d :: ds, σ => match assign t d σ with
    | some σ' => assigns ts ds σ'
    | none => none
  | _, _, _ => none
end
def isSh : Slot → Bool
  | .own _ => false
  | _ => true
/-- the slots vs emptied; put back -/
def wipeZ (σ : List Slot) : List Nat → List Slot
  | [] => σ
  | v :: vs => (wipeZ σ vs).set v .no
def backZ (σ0 σ : List Slot) : List Nat → List Slot
  | [] => σ
  | v :: vs => (backZ σ0 σ vs).set v (σ0.getD v .no)
/-- nothing is raised -/
def noX {α : Type} : Res α → Res α
  | .exn _ _ => .stuck
  | r => r
def compL (turn : D → Sta → Res (Option D)) : List D → List D → Sta → Res (List D)
  | [], acc, s => .ok acc s
  | d :: ds, acc, s => (turn d s).bind fun r s1 => match r with
    | some x => if acc.length < LIM then compL turn ds (acc ++ [x]) s1 else .stuck
    | none => compL turn ds acc s1
def dcompL (turn : D → Sta → Res (Option (D × D))) : List D → List D → List D → Sta → Res (List D × List D)
  | [], ks, us, s => .ok (ks, us) s
  | d :: ds, ks, us, s => (turn d s).bind fun r s1 => match r with
    | some (k, u) => if keyOk k ∧ ks.length < LIM then dcompL turn ds (putD ks us k u).1 (putD ks us k u).2 s1 else .stuck
    | none => dcompL turn ds ks us s1
def rangeL (lo : Int) : Nat → List D
  | 0 => []
  | n + 1 => .int lo :: rangeL (lo + 1) n
def RLIM : Int := 4611686018427387904
def rangeS (lo c : Int) : Nat → List D
  | 0 => []
  | n + 1 => .int lo :: rangeS (lo + c) c n
def stepsN (a b c : Int) : Nat := if a < b then ((b - a - 1) / c + 1).toNat else 0
def rangeD : List D → Option (List D)
  | [.int a, .int b, .int c] => if -RLIM ≤ a ∧ a < RLIM ∧ -RLIM ≤ b ∧ b < RLIM ∧ 0 < c ∧ c < 1073741824 then some (rangeS a c (stepsN a b c)) else none
  | [.int n] => if -RLIM ≤ n ∧ n < RLIM then some (rangeL 0 n.toNat) else none
  | [.int a, .int b] => if -RLIM ≤ a ∧ a < RLIM ∧ -RLIM ≤ b ∧ b < RLIM then some (rangeL a (b - a).toNat) else none
  | _ => none
def enumD (k : Int) : List D → List D
  | [] => []
  | d :: ds => .tup [.int k, d] :: enumD (k + 1) ds
def zipD : List D → List D → List D
  | x :: xs, y :: ys => .tup [x, y] :: zipD xs ys
  | _, _ => []
def iterD : D → Option (List D)
  | .lst ds => some ds
  | .tup ds => some ds
  | .str x => some (x.map fun c => .str [c])
  | _ => none
def lookF (f : Nat) : List (Nat × D) → Option D
  | [] => none
  | (g, d) :: r => if g = f then some d else lookF f r
def putF (f : Nat) (d : D) : List (Nat × D) → List (Nat × D)
  | [] => [(f, d)]
  | (g, x) :: r => if g = f then (g, d) :: r else (g, x) :: putF f d r

def keysOk : List D → Bool
  | [] => true
  | k :: ks => keyOk k && keysOk ks
def mkDict : List D → List D → List D → List D → List D × List D
  | k :: ks, v :: vs, aks, avs => mkDict ks vs (putD aks avs k v).1 (putD aks avs k v).2
  | _, _, aks, avs => (aks, avs)

mutual
/-- a value; true: an object that nobody else knows -/
def ev (P : Prog) : E → Sta → Res (Bool × D)
  | .v i, s => readV i s
  | .lit d, s => .ok (false, d) s
  | .g n, s => (lift (P.glob n) s).bind fun d s => .ok (false, d) s
  | .fn f, s => .ok (false, .fn f) s
  | .pr p es, s => (evrs P es s).bind fun as s1 => (lift (getAll s1 as) s1).bind fun ds s1 => lift (prim p ds) s1
  | .sl a lo hi, s => (rdArg a (ev P a) s).bind fun x s1 => (evo P lo s1).bind fun l s2 => (evo P hi s2).bind fun h s3 => match x.get s3 with
    | some d => lift (slD d l h) s3
    | none => .stuck
  | .mp m o es, s => (rdArg o (ev P o) s).bind fun a s1 => match a.get s1 with
    | some d => if mrecv m d then (evrs P es s1).bind fun as s2 => (lift (getAll s2 (a :: as)) s2).bind fun ds s2 => lift (mprim m ds) s2 else .stuck
    | none => .stuck
  | .mu m o es, s => (rdPlace o (ev P o) s).bind fun p s1 => if isList (p.get s1) then (evs P es s1).bind fun ds s2 => match p.get s2 with
      | some c => match mutC m c ds with
        | some (c', d) => .ok (false, d) (p.set s2 c')
        | none => .stuck
      | none => .stuck
    else .stuck
  | .tup es, s => (evs P es s).bind fun ds s1 => if ds.length ≤ LIM then .ok (false, .tup ds) s1 else .stuck
  | .lst es, s => (evs P es s).bind fun ds s1 => if ds.length ≤ LIM then .ok (true, .lst ds) s1 else .stuck
  | .dct ks es, s => (evs P es s).bind fun vd s1 =>
      if keysOk ks ∧ ks.length = vd.length ∧ ks.length ≤ 15 then .ok (true, .dct (mkDict ks vd [] []).1 (mkDict ks vd [] []).2) s1 else .stuck
  | .cell e, s => (ev P e s).bind fun x s1 => if x.1 then match toCell x.2 with
      | some c => .ok (false, .ref s1.S.length) { s1 with S := s1.S ++ [c] }
      | none => .stuck
    else .stuck
  | .call f es, s => (evs P es s).bind fun ds s1 => fromF s1.σ (P.call f ds s1.S)
  | .callv i es, s => match s.σ[i]? with
    | some (.sh (.fn f)) => (evs P es s).bind fun ds s1 => fromF s1.σ (P.call f ds s1.S)
    | _ => .stuck
  | .notV e, s => (rdArg e (ev P e) s).bind fun x s1 => match x.get s1 with
    | some d => match truthD d with
      | some b => .ok (false, .bl (!b)) s1
      | none => .stuck
    | none => .stuck
  | .bopV b es, s => evb P b es s
  | .ite t a b, s => (evt P t s).bind fun c s1 => if c then ev P a s1 else ev P b s1
  | .comp tg vs it ifs e, s => (evit P it s).bind fun ds s1 =>
      if (vs.all fun v => isSh (s1.σ.getD v .no)) then
        (compL (fun d s2 => noX (match assign tg d s2.σ with
            | some σ' => (evts P ifs { s2 with σ := σ' }).bind fun b s3 => if b then (ev P e s3).bind fun x s4 => .ok (some x.2) { s4 with σ := wipeZ s4.σ vs } else .ok none { s3 with σ := wipeZ s3.σ vs }
            | none => .stuck)) ds [] { s1 with σ := wipeZ s1.σ vs }).bind fun r s5 => .ok (true, .lst r) { s5 with σ := backZ s1.σ s5.σ vs }
      else .stuck
  | .dcomp tg vs it ifs ke e, s => (evit P it s).bind fun ds s1 =>
      if (vs.all fun v => isSh (s1.σ.getD v .no)) then
        (dcompL (fun d s2 => noX (match assign tg d s2.σ with
            | some σ' => (evts P ifs { s2 with σ := σ' }).bind fun b s3 => if b then (ev P ke s3).bind fun y s4 => (ev P e s4).bind fun x s5 => .ok (some (y.2, x.2)) { s5 with σ := wipeZ s5.σ vs } else .ok none { s3 with σ := wipeZ s3.σ vs }
            | none => .stuck)) ds [] [] { s1 with σ := wipeZ s1.σ vs }).bind fun r s5 => .ok (true, .dct r.1 r.2) { s5 with σ := backZ s1.σ s5.σ vs }
      else .stuck
  | .kin n g e, s => (ev P e s).bind fun x s1 => match x.2 with
    | .str z => match (P.kd g).lookup z with
      | some r => .ok (false, .bl (r.isSome != n)) s1
      | none => .stuck
    | _ => .stuck
  | .kix g e, s => (ev P e s).bind fun x s1 => match x.2 with
    | .str z => match (P.kd g).lookup z with
      | some (some i) => .ok (false, .int i) s1
      | _ => .stuck
    | _ => .stuck
  | .fld o f, s => (ev P o s).bind fun x s1 => match x.2 with
    | .ref n => match s1.S[n]? with
      | some (.I _ fs) => match lookF f fs with
        | some d => .ok (false, d) s1
        | none => .stuck
      | _ => .stuck
    | _ => .stuck
  | .mk c es, s => (evs P es s).bind fun ds s1 => match P.init c with
    | some f => match P.call f (.ref s1.S.length :: ds) (s1.S ++ [.I c []]) with
      | .ok _ d S' => match d with
        | .non => .ok (false, .ref s1.S.length) ⟨s1.σ, S'⟩
        | _ => .stuck
      | .exn x S' => .exn x ⟨s1.σ, S'⟩
      | .stuck => .stuck
    | none => .stuck
  | .mc o m es, s => (ev P o s).bind fun x s1 => match x.2 with
    | .ref n => match s1.S[n]? with
      | some (.I c _) => match P.meth c m with
        | some f => (evs P es s1).bind fun ds s2 => fromF s2.σ (P.call f (.ref n :: ds) s2.S)
        | none => .stuck
      | _ => .stuck
    | _ => .stuck
/-- a part of a slice -/
def evo (P : Prog) : Option E → Sta → Res (Option Int)
  | none, s => .ok none s
  | some e, s => (ev P e s).bind fun v s1 => match v.2 with
    | .int i => .ok (some i) s1
    | _ => .stuck
/-- values -/
def evs (P : Prog) : List E → Sta → Res (List D)
  | [], s => .ok [] s
  | e :: es, s => (ev P e s).bind fun x s1 => (evs P es s1).bind fun xs s2 => .ok (x.2 :: xs) s2
/-- operands -/
def evrs (P : Prog) : List E → Sta → Res (List Arg)
  | [], s => .ok [] s
  | e :: es, s => (rdArg e (ev P e) s).bind fun x s1 => (evrs P es s1).bind fun xs s2 => .ok (x :: xs) s2
/-- and, or as values: of bools -/
def evb (P : Prog) : Bool → List E → Sta → Res (Bool × D)
  | _, [], s => .stuck
  | b, e :: es, s => (ev P e s).bind fun x s1 => match x.2 with
    | .bl c => match es with
      | [] => .ok (false, .bl c) s1
      | _ => if c = b then evb P b es s1 else .ok (false, .bl c) s1
    | _ => .stuck
def evt (P : Prog) : T → Sta → Res Bool
  | .cmp op a b, s => (rdArg a (ev P a) s).bind fun x s1 => (rdArg b (ev P b) s1).bind fun y s2 => match x.get s2, y.get s2 with
    | some d, some e => match cmpD op d e with
      | some (_, .bl c) => .ok c s2
      | _ => .stuck
    | _, _ => .stuck
  | .e a, s => (rdArg a (ev P a) s).bind fun x s1 => match x.get s1 with
    | some d => lift (truthD d) s1
    | none => .stuck
  | .not t, s => (evt P t s).bind fun b s1 => .ok (!b) s1
  | .kin n g e, s => (ev P e s).bind fun x s1 => match x.2 with
    | .str z => match (P.kd g).lookup z with
      | some r => .ok (r.isSome != n) s1
      | none => .stuck
    | _ => .stuck
  | .isN n a, s => (rdArg a (ev P a) s).bind fun x s1 => match x.get s1 with
    | some d => match noneD n d with
      | some (_, .bl c) => .ok c s1
      | _ => .stuck
    | none => .stuck
  | .bop b ts, s => evtb P b ts s
def evtb (P : Prog) : Bool → List T → Sta → Res Bool
  | _, [], s => .stuck
  | b, t :: ts, s => (evt P t s).bind fun c s1 => match ts with
    | [] => .ok c s1
    | _ => if c = b then evtb P b ts s1 else .ok c s1
def evts (P : Prog) : List T → Sta → Res Bool
  | [], s => .ok true s
  | [t], s => evt P t s
  | _, _ => .stuck
def evit (P : Prog) : It → Sta → Res (List D)
  | .seq e, s => (ev P e s).bind fun x s1 => lift (iterD x.2) s1
  | .rng es, s => (evs P es s).bind fun ds s1 => lift (rangeD ds) s1
  | .enum e, s => (ev P e s).bind fun x s1 => match x.2 with
    | .lst ds => .ok (enumD 0 ds) s1
    | _ => .stuck
  | .zip a b, s => (ev P a s).bind fun x s1 => (ev P b s1).bind fun y s2 => match x.2, y.2 with
    | .lst xs, .lst ys => .ok (zipD xs ys) s2
    | .tup xs, .tup ys => .ok (zipD xs ys) s2
    | _, _ => .stuck
end

def forL (body : D → Sta → RS) : List D → Sta → RS
  | [], s => .next s
  | d :: ds, s => match body d s with
    | .next s1 => forL body ds s1
    | .cnt s1 => forL body ds s1
    | .brk s1 => .next s1
    | r => r
def whileN (c : Sta → Res Bool) (body : Sta → RS) : Nat → Sta → RS
  | 0, _ => .stuck
  | n + 1, s => (c s).then fun b s1 => if b then match body s1 with
      | .next s2 => whileN c body n s2
      | .cnt s2 => whileN c body n s2
      | .brk s2 => .next s2
      | r => r
    else .next s1
open Classical in
noncomputable def whileL (c : Sta → Res Bool) (body : Sta → RS) (s : Sta) : RS :=
  if h : ∃ n, whileN c body n s ≠ .stuck then whileN c body (Classical.choose h) s else .stuck

def suiteD (P : Prog) (c : Nat) (ds : List D) : Suite → Option D
  | .isi c' => if ds.isEmpty then some (.bl (P.sub c c')) else none
  | .lit d => some d
  | .cat x f => match (P.flds c).idxOf? f with
    | some k => match ds[k]? with
      | some (.str y) => if x.length + y.length ≤ LIM then some (.str (x ++ y)) else none
      | _ => none
    | none => none
/-- an object that nobody else knows, or a datum -/
def bindTo (i : Nat) (o : Bool) (d : D) (s : Sta) : RS :=
  if i < s.σ.length then
    if o then match toCell d with
      | some c => .next { s with σ := s.σ.set i (.own c) }
      | none => .next { s with σ := s.σ.set i (.sh d) }
    else .next { s with σ := s.σ.set i (.sh d) }
  else .stuck
mutual
noncomputable def exec (P : Prog) : S → Sta → RS
  | .set i e, s => (ev P e s).then fun x s1 => bindTo i x.1 x.2 s1
  | .setT t e, s => (ev P e s).then fun x s1 => match assign t x.2 s1.σ with
    | some σ' => .next { s1 with σ := σ' }
    | none => .stuck
  | .aug i op e, s => match s.σ[i]? with
    | some (.sh d) => (ev P e s).then fun y s1 => match augD op d y.2 with
      | some r => bindTo i false r s1
      | none => .stuck
    | _ => .stuck
  | .put o k e, s => (ev P e s).then fun x s1 => (rdPlace o (ev P o) s1).then fun p s2 => (ev P k s2).then fun i s3 => match p.get s3 with
    | some c => match putC c i.2 x.2 with
      | some c' => .next (p.set s3 c')
      | none => .stuck
    | none => .stuck
  | .putA o k op e, s => (rdPlace o (ev P o) s).then fun p s1 => (ev P k s1).then fun i s2 => match p.get s2 with
    | some c => match getC c i.2 with
      | some d => (ev P e s2).then fun y s3 => match augD op d y.2 with
        | some r => match p.get s3 with
          | some c3 => match putC c3 i.2 r with
            | some c' => .next (p.set s3 c')
            | none => .stuck
          | none => .stuck
        | none => .stuck
      | none => .stuck
    | none => .stuck
  | .fset o f e, s => (ev P e s).then fun x s1 => (ev P o s1).then fun y s2 => match y.2 with
    | .ref n => match s2.S[n]? with
      | some (.I c fs) => if fs.length < 900 then .next { s2 with S := s2.S.set n (.I c (putF f x.2 fs)) } else .stuck
      | _ => .stuck
    | _ => .stuck
  | .fsetA o f op e, s => (ev P o s).then fun y s1 => match y.2 with
    | .ref n => match s1.S[n]? with
      | some (.I _ fs) => match lookF f fs with
        | some d => (ev P e s1).then fun z s2 => match augD op d z.2 with
          | some r => match s2.S[n]? with
            | some (.I c fs2) => if fs2.length < 900 then .next { s2 with S := s2.S.set n (.I c (putF f r fs2)) } else .stuck
            | _ => .stuck
          | none => .stuck
        | none => .stuck
      | _ => .stuck
    | _ => .stuck
  | .ret e, s => match e with
    | .v i => match s.σ[i]? with
      | some (.own c) => match c.view with
        | some d => .ret true d s
        | none => .stuck
      | some (.sh d) => .ret false d s
      | _ => .stuck
    | e => (ev P e s).then fun x s1 => .ret x.1 x.2 s1
  | .retN, s => .ret false .non s
  | .ife t a b, s => (evt P t s).then fun c s1 => if c then execs P a s1 else execs P b s1
  | .whl t b, s => whileL (evt P t) (execs P b) s
  | .fr tg it b, s => (evit P it s).then fun ds s1 => forL (fun d s2 => match assign tg d s2.σ with
      | some σ' => execs P b { s2 with σ := σ' }
      | none => .stuck) ds s1
  | .brk, s => .brk s
  | .cnt, s => .cnt s
  | .pass, s => .next s
  | .exp e, s => (ev P e s).then fun _ s1 => .next s1
  | .rais c es, s => (evs P es s).then fun ds s1 => .exn (.mk c ds) s1
  | .tryE b c i su, s => match execs P b s with
    | .exn (.mk c' ds) s1 => if P.sub c' c then match suiteD P c' ds su with
        | some d => if i < s1.σ.length then .ret false d s1 else .stuck
        | none => .stuck
      else .exn (.mk c' ds) s1
    | r => r
noncomputable def execs (P : Prog) : List S → Sta → RS
  | [], s => .next s
  | x :: xs, s => (exec P x s).seq (execs P xs)
end

/-! ### defs -/
structure Fn where
  np : Nat
  ns : Nat
  body : List S
structure Tbl where
  fns : List Fn
  glob : Nat → Option D
  init : Nat → Option Nat
  meth : Nat → Nat → Option Nat
  sub : Nat → Nat → Bool
  flds : Nat → List Nat
  kd : Nat → List (List Nat × Option Int) := fun _ => []
mutual
/-- no cell from n on within -/
def D.under (n : Nat) : D → Bool
  | .tup ds => unders n ds
  | .lst ds => unders n ds
  | .dct ks vs => unders n ks && unders n vs
  | .ref m => decide (m < n)
  | _ => true
def unders (n : Nat) : List D → Bool
  | [] => true
  | d :: ds => d.under n && unders n ds
end
def Cell.under (n : Nat) : Cell → Bool
  | .L ds => unders n ds
  | .M ks vs => unders n ks && unders n vs
  | .I _ fs => fs.all fun p => p.2.under n
/-- the cells that nobody reaches any more are forgotten -/
def gc (n : Nat) (ds : List D) (S : List Cell) : List Cell :=
  if S.length = n then S else if unders n ds && (S.take n).all (Cell.under n) then S.take n else S
def fin (n : Nat) : RS → FRes
  | .next s => .ok false .non (gc n [] s.S)
  | .ret o d s => .ok o d (gc n [d] s.S)
  | .exn (.mk c ds) s => .exn (.mk c ds) (gc n ds s.S)
  | _ => .stuck
noncomputable def Phi (t : Tbl) : Nat → Nat → List D → List Cell → FRes
  | 0, _, _, _ => .stuck
  | k + 1, f, ds, S => match t.fns[f]? with
    | none => .stuck
    | some fn => if ds.length = fn.np ∧ fn.np ≤ fn.ns then
        fin S.length (execs ⟨Phi t k, t.glob, t.init, t.meth, t.sub, t.flds, t.kd⟩ fn.body ⟨ds.map .sh ++ List.replicate (fn.ns - fn.np) .no, S⟩)
      else .stuck
noncomputable def prog (t : Tbl) (k : Nat) : Prog := ⟨Phi t k, t.glob, t.init, t.meth, t.sub, t.flds, t.kd⟩
end Z

set_option Elab.async false
set_option linter.all false
set_option maxRecDepth 100000
set_option maxHeartbeats 1000000
set_option autoImplicit false
/-! ZRep: how a datum of Z stands in the abstract heap of the hand layer. -/
namespace Z
open PySem PySem.Spec PyProof.Rows L2

abbrev toS (x : List Nat) : Str := ⟨x.toArray⟩
theorem toS_tl (x : List Nat) : (toS x).cps.toList = x := rfl
theorem toS_of (z : Str) : toS z.cps.toList = z := by cases z; simp [toS]
theorem toS_len (x : List Nat) : (toS x).length = x.length := by simp [toS, Str.length]
theorem toS_inj {x y : List Nat} (h : toS x = toS y) : x = y := by
  have := congrArg (fun z : Str => z.cps.toList) h
  simpa [toS] using this

/-- the ghost: the abstract heap, what changes no more, the cells' addresses -/
structure Gh where
  H : Hp
  F : Addr → Prop
  M : List Addr
/-- where the defs and classes stand -/
structure Wo where
  K : PySem.W.Frag
  fa : Nat → Option Addr
  ca : Nat → Option Addr
  xa : Nat → Option Addr
  fl : Nat → Str
def kD : Key → D
  | .inl i => .int i
  | .inr x => .str x.cps.toList
/-- a list from outside -/
def ScL (K : PySem.W.Frag) (G : Gh) (a : Addr) (vs : List V) : Prop :=
  (∃ o, G.H a = some (.frz o (.lst vs))) ∨
    ∃ (o : Obj) (its : Array Value) (n : Nat), K.lookup a = some o ∧ o.cls = .type "list" ∧ o.dict = none ∧ o.data = .seq its n ∧ its.size ≤ sizeLine ∧ Vals vs its.toList
theorem ScL.sq {K : PySem.W.Frag} {G : Gh} {a : Addr} {vs : List V} (h : ScL K G a vs) : SqL K G.H a vs := by
  rcases h with h | h
  · exact .inl (.inr h)
  · exact .inr h
/-- a text: not too long, of signs -/
def TxtOk (x : List Nat) : Prop := x.length ≤ LIM ∧ ∀ c ∈ x, c < 1114112
mutual
def Rep (W : Wo) (G : Gh) : D → V → Prop
  | .non, v => v = .non
  | .bl b, v => v = .bl b
  | .int i, v => v = .int i
  | .str x, v => v = .str (toS x) ∧ TxtOk x
  | .tup ds, v => ∃ a vs, v = .ref a ∧ SqT W.K G.H a vs ∧ Reps W G ds vs
  | .lst ds, v => ∃ a vs, v = .ref a ∧ G.F a ∧ G.H a = some (.lst vs) ∧ Reps W G ds vs
  | .scr ns, v => ∃ a, v = .ref a ∧ ScL W.K G a (ns.map V.int)
  | .dct ks us, v => ∃ a kvs, v = .ref a ∧ G.F a ∧ G.H a = some (.dK kvs) ∧ ks = kvs.map (fun p => kD p.1) ∧ Reps W G us (kvs.map (·.2))
  | .ref n, v => ∃ a, v = .ref a ∧ G.M[n]? = some a
  | .fn f, v => ∃ a, v = .ref a ∧ W.fa f = some a
def Reps (W : Wo) (G : Gh) : List D → List V → Prop
  | [], vs => vs = []
  | d :: ds, vs => ∃ v r, vs = v :: r ∧ Rep W G d v ∧ Reps W G ds r
end
def FRep (W : Wo) (G : Gh) : List (Nat × D) → List (Str × V) → Prop
  | [], vs => vs = []
  | (f, d) :: r, vs => ∃ v vr, vs = (W.fl f, v) :: vr ∧ Rep W G d v ∧ FRep W G r vr
def CRep (W : Wo) (G : Gh) (c : Cell) (a : Addr) : Prop := match c with
  | .L ds => ∃ vs, G.H a = some (.lst vs) ∧ Reps W G ds vs
  | .M ks us => ∃ kvs, G.H a = some (.dK kvs) ∧ ks = kvs.map (fun p => kD p.1) ∧ Reps W G us (kvs.map (·.2))
  | .I c fs => ∃ C dx fvs, W.ca c = some C ∧ G.H a = some (.ins C dx fvs) ∧ FRep W G fs fvs
def imm : HO → Bool
  | .tup _ => true
  | .frz _ _ => true
  | _ => false
structure Keep (G G' : Gh) : Prop where
  im : ∀ a o, G.H a = some o → imm o = true → G'.H a = some o
  fz : ∀ a, G.F a → G'.F a ∧ G'.H a = G.H a
  mm : ∀ (n : Nat) (a : Addr), G.M[n]? = some a → G'.M[n]? = some a
theorem Keep.refl (G : Gh) : Keep G G := ⟨fun _ _ e _ => e, fun _ h => ⟨h, rfl⟩, fun _ _ e => e⟩
theorem Keep.trans {G G1 G2 : Gh} (a : Keep G G1) (b : Keep G1 G2) : Keep G G2 :=
  ⟨fun x o e h => b.im x o (a.im x o e h) h, fun x h => ⟨(b.fz x (a.fz x h).1).1, (b.fz x (a.fz x h).1).2.trans (a.fz x h).2⟩, fun n x e => b.mm n x (a.mm n x e)⟩
section
variable {W : Wo} {G G' : Gh}
theorem sqT_keep (k : Keep G G') {a : Addr} {vs : List V} (h : SqT W.K G.H a vs) : SqT W.K G'.H a vs := by
  rcases h with (h | ⟨o, h⟩) | h
  · exact .inl (.inl (k.im _ _ h rfl))
  · exact .inl (.inr ⟨o, k.im _ _ h rfl⟩)
  · exact .inr h
theorem scL_keep (k : Keep G G') {a : Addr} {vs : List V} (h : ScL W.K G a vs) : ScL W.K G' a vs := by
  rcases h with ⟨o, h⟩ | h
  · exact .inl ⟨o, k.im _ _ h rfl⟩
  · exact .inr h
mutual
theorem Rep.keep (k : Keep G G') : ∀ (d : D) (v : V), Rep W G d v → Rep W G' d v
  | .non, _, h => h
  | .bl _, _, h => h
  | .int _, _, h => h
  | .str _, _, h => h
  | .tup ds, v, h => by
    simp only [Rep] at h ⊢
    obtain ⟨a, vs, e, s, r⟩ := h
    exact ⟨a, vs, e, sqT_keep k s, Reps.keep k ds vs r⟩
  | .lst ds, v, h => by
    simp only [Rep] at h ⊢
    obtain ⟨a, vs, e, f, s, r⟩ := h
    exact ⟨a, vs, e, (k.fz a f).1, (k.fz a f).2.trans s, Reps.keep k ds vs r⟩
  | .scr ns, v, h => by
    simp only [Rep] at h ⊢
    obtain ⟨a, e, s⟩ := h
    exact ⟨a, e, scL_keep k s⟩
  | .dct ks us, v, h => by
    simp only [Rep] at h ⊢
    obtain ⟨a, kvs, e, f, s, q, r⟩ := h
    exact ⟨a, kvs, e, (k.fz a f).1, (k.fz a f).2.trans s, q, Reps.keep k us _ r⟩
  | .ref n, v, h => by
    simp only [Rep] at h ⊢
    obtain ⟨a, e, s⟩ := h
    exact ⟨a, e, k.mm n a s⟩
  | .fn f, v, h => by
    simp only [Rep] at h ⊢
    exact h
theorem Reps.keep (k : Keep G G') : ∀ (ds : List D) (vs : List V), Reps W G ds vs → Reps W G' ds vs
  | [], _, h => h
  | d :: ds, vs, h => by
    simp only [Reps] at h ⊢
    obtain ⟨v, r, e, h1, h2⟩ := h
    exact ⟨v, r, e, Rep.keep k d v h1, Reps.keep k ds r h2⟩
end
theorem FRep.keep (k : Keep G G') : ∀ (fs : List (Nat × D)) (vs : List (Str × V)), FRep W G fs vs → FRep W G' fs vs
  | [], _, h => h
  | (f, d) :: r, vs, h => by
    obtain ⟨v, vr, e, h1, h2⟩ := h
    exact ⟨v, vr, e, Rep.keep k d v h1, FRep.keep k r vr h2⟩
theorem CRep.keep (k : Keep G G') {c : Cell} {a : Addr} (ha : G'.H a = G.H a) (h : CRep W G c a) : CRep W G' c a := by
  cases c with
  | L ds =>
    obtain ⟨vs, e, r⟩ := h
    exact ⟨vs, ha.trans e, Reps.keep k _ _ r⟩
  | M ks us =>
    obtain ⟨kvs, e, q, r⟩ := h
    exact ⟨kvs, ha.trans e, q, Reps.keep k _ _ r⟩
  | I c fs =>
    obtain ⟨C, dx, fvs, e0, e, r⟩ := h
    exact ⟨C, dx, fvs, e0, ha.trans e, FRep.keep k _ _ r⟩
theorem CRep.there {c : Cell} {a : Addr} (h : CRep W G c a) : ∃ o, G.H a = some o ∧ imm o = false := by
  cases c with
  | L ds => obtain ⟨vs, e, r⟩ := h; exact ⟨_, e, rfl⟩
  | M ks us => obtain ⟨kvs, e, q, r⟩ := h; exact ⟨_, e, rfl⟩
  | I c fs => obtain ⟨C, dx, fvs, e0, e, r⟩ := h; exact ⟨_, e, rfl⟩
theorem Reps.len : ∀ {ds : List D} {vs : List V}, Reps W G ds vs → vs.length = ds.length
  | [], _, h => by simp only [Reps] at h; subst h; rfl
  | d :: ds, vs, h => by
    simp only [Reps] at h
    obtain ⟨v, r, e, h1, h2⟩ := h
    subst e
    simp only [List.length_cons, Reps.len h2]
theorem Reps.get : ∀ {ds : List D} {vs : List V} {i : Nat} {d : D}, Reps W G ds vs → ds[i]? = some d → ∃ v, vs[i]? = some v ∧ Rep W G d v
  | [], _, _, _, h, e => by simp at e
  | d :: ds, vs, 0, x, h, e => by
    simp only [Reps] at h
    obtain ⟨v, r, e', h1, h2⟩ := h
    subst e'
    simp at e; subst e
    exact ⟨v, rfl, h1⟩
  | d :: ds, vs, i + 1, x, h, e => by
    simp only [Reps] at h
    obtain ⟨v, r, e', h1, h2⟩ := h
    subst e'
    obtain ⟨u, h3, h4⟩ := Reps.get (i := i) h2 (by simpa using e)
    exact ⟨u, by simpa using h3, h4⟩
theorem Reps.append : ∀ {ds es : List D} {vs us : List V}, Reps W G ds vs → Reps W G es us → Reps W G (ds ++ es) (vs ++ us)
  | [], _, _, _, h, h' => by simp only [Reps] at h; subst h; exact h'
  | d :: ds, es, vs, us, h, h' => by
    simp only [Reps] at h
    obtain ⟨v, r, e, h1, h2⟩ := h
    subst e
    simp only [List.cons_append, Reps]
    exact ⟨v, r ++ us, rfl, h1, Reps.append h2 h'⟩
theorem Reps.one {d : D} {v : V} (h : Rep W G d v) : Reps W G [d] [v] := by simp only [Reps]; exact ⟨v, [], rfl, h, rfl⟩
theorem Reps.take : ∀ {ds : List D} {vs : List V} (n : Nat), Reps W G ds vs → Reps W G (ds.take n) (vs.take n)
  | _, _, 0, _ => by simp [Reps]
  | [], _, n + 1, h => by simp only [Reps] at h; subst h; simp [Reps]
  | d :: ds, vs, n + 1, h => by
    simp only [Reps] at h
    obtain ⟨v, r, e, h1, h2⟩ := h
    subst e
    simp only [List.take_succ_cons, Reps]
    exact ⟨v, _, rfl, h1, Reps.take n h2⟩
theorem Reps.drop : ∀ {ds : List D} {vs : List V} (n : Nat), Reps W G ds vs → Reps W G (ds.drop n) (vs.drop n)
  | _, _, 0, h => h
  | [], _, n + 1, h => by simp only [Reps] at h; subst h; simp [Reps]
  | d :: ds, vs, n + 1, h => by
    simp only [Reps] at h
    obtain ⟨v, r, e, h1, h2⟩ := h
    subst e
    exact Reps.drop n h2
theorem Reps.set : ∀ {ds : List D} {vs : List V} (n : Nat) {d : D} {v : V}, Reps W G ds vs → Rep W G d v → Reps W G (ds.set n d) (vs.set n v)
  | [], _, n, d, v, h, _ => by simp only [Reps] at h; subst h; simp [Reps]
  | x :: ds, vs, 0, d, v, h, hd => by
    simp only [Reps] at h
    obtain ⟨u, r, e, h1, h2⟩ := h
    subst e
    simp only [List.set_cons_zero, Reps]
    exact ⟨v, r, rfl, hd, h2⟩
  | x :: ds, vs, n + 1, d, v, h, hd => by
    simp only [Reps] at h
    obtain ⟨u, r, e, h1, h2⟩ := h
    subst e
    simp only [List.set_cons_succ, Reps]
    exact ⟨u, _, rfl, h1, Reps.set n h2 hd⟩
theorem Reps.reverse : ∀ {ds : List D} {vs : List V}, Reps W G ds vs → Reps W G ds.reverse vs.reverse
  | [], _, h => by simp only [Reps] at h; subst h; simp [Reps]
  | d :: ds, vs, h => by
    simp only [Reps] at h
    obtain ⟨v, r, e, h1, h2⟩ := h
    subst e
    simp only [List.reverse_cons]
    exact Reps.append (Reps.reverse h2) (Reps.one h1)
end

/-! ### the state -/
def SlotRep (W : Wo) (G : Gh) (s : Slot) (v : Option V) (o : Option Addr) : Prop := match s with
  | .no => o = none
  | .sh d => o = none ∧ ∃ x, v = some x ∧ Rep W G d x
  | .own c => ∃ a, o = some a ∧ v = some (.ref a) ∧ CRep W G c a ∧ ¬ G.F a
structure StRep (W : Wo) (G : Gh) (s : Sta) (σ : L2.St) (O : List (Option Addr)) : Prop where
  len : σ.length = s.σ.length
  lenO : O.length = s.σ.length
  slots : ∀ (i : Nat) (x : Slot), s.σ[i]? = some x → ∃ (v : Option V) (o : Option Addr), σ[i]? = some v ∧ O[i]? = some o ∧ SlotRep W G x v o
  lenM : G.M.length = s.S.length
  cells : ∀ (n : Nat) (c : Cell), s.S[n]? = some c → ∃ (a : Addr), G.M[n]? = some a ∧ CRep W G c a ∧ ¬ G.F a
  nd : (O.filterMap id ++ G.M).Nodup
  dom : ∀ a, G.F a → ∃ o, G.H a = some o
abbrev ow (O : List (Option Addr)) : List Addr := O.filterMap id
structure Frm (G : Gh) (o : List Addr) (G' : Gh) (o' : List Addr) : Prop where
  keep : Keep G G'
  rest : ∀ a x, G.H a = some x → a ∉ o → a ∉ G.M → G'.H a = some x
  fz : ∀ a, G'.F a → G.F a ∨ a ∈ o ∨ G.H a = none
  ow : ∀ a, a ∈ o' → a ∈ o ∨ G.H a = none
  mm : ∀ a, a ∈ G'.M → a ∈ G.M ∨ a ∈ o ∨ G.H a = none
  dm : ∀ a x, G.H a = some x → ∃ y, G'.H a = some y
theorem Frm.refl (G : Gh) (o : List Addr) : Frm G o G o := ⟨.refl G, fun _ _ e _ _ => e, fun _ h => .inl h, fun _ h => .inl h, fun _ h => .inl h, fun _ x e => ⟨x, e⟩⟩
theorem Frm.trans {G G1 G2 : Gh} {o o1 o2 : List Addr} (a : Frm G o G1 o1) (b : Frm G1 o1 G2 o2) : Frm G o G2 o2 := by
  have back : ∀ x, G1.H x = none → G.H x = none := fun x h => by
    cases e : G.H x with
    | none => rfl
    | some y => obtain ⟨z, hz⟩ := a.dm x y e; rw [h] at hz; cases hz
  refine ⟨a.keep.trans b.keep, fun x y e h1 h2 => b.rest x y (a.rest x y e h1 h2) (fun h => ?_) (fun h => ?_), fun x h => ?_, fun x h => ?_, fun x h => ?_, fun x y e => ?_⟩
  · rcases a.ow x h with h | h
    · exact h1 h
    · rw [e] at h; cases h
  · rcases a.mm x h with h | h | h
    · exact h2 h
    · exact h1 h
    · rw [e] at h; cases h
  · rcases b.fz x h with h | h | h
    · exact a.fz x h
    · exact .inr (a.ow x h)
    · exact .inr (.inr (back x h))
  · rcases b.ow x h with h | h
    · exact a.ow x h
    · exact .inr (back x h)
  · rcases b.mm x h with h | h | h
    · exact a.mm x h
    · exact .inr (a.ow x h)
    · exact .inr (.inr (back x h))
  · obtain ⟨z, hz⟩ := a.dm x y e
    exact b.dm x z hz
/-- only new objects -/
structure Ext (G G' : Gh) : Prop where
  h : ∀ a o, G.H a = some o → G'.H a = some o
  f : ∀ a, G.F a → G'.F a
  f' : ∀ a, G'.F a → G.F a ∨ (G.H a = none ∧ ∃ o, G'.H a = some o)
  m : G'.M = G.M
theorem Ext.refl (G : Gh) : Ext G G := ⟨fun _ _ e => e, fun _ h => h, fun _ h => .inl h, rfl⟩
theorem Ext.trans {G G1 G2 : Gh} (a : Ext G G1) (b : Ext G1 G2) : Ext G G2 := by
  refine ⟨fun x o e => b.h x o (a.h x o e), fun x h => b.f x (a.f x h), fun x h => ?_, b.m.trans a.m⟩
  have back : G1.H x = none → G.H x = none := fun h => by
    cases e : G.H x with
    | none => rfl
    | some y => rw [a.h x y e] at h; cases h
  rcases b.f' x h with h | ⟨h, y⟩
  · rcases a.f' x h with h | ⟨h, o, y⟩
    · exact .inl h
    · exact .inr ⟨h, o, b.h x o y⟩
  · exact .inr ⟨back h, y⟩
theorem Ext.keep {G G' : Gh} {W : Wo} (e : Ext G G') (dom : ∀ a, G.F a → ∃ o, G.H a = some o) : Keep G G' :=
  ⟨fun a o h _ => e.h a o h, fun a h => ⟨e.f a h, by obtain ⟨o, q⟩ := dom a h; rw [q]; exact e.h a o q⟩, fun n a h => by rw [e.m]; exact h⟩
section
variable {W : Wo} {G G' : Gh} {s : Sta} {σ : L2.St} {O : List (Option Addr)}
theorem StRep.kept (r : StRep W G s σ O) (e : Ext G G') : Keep G G' := e.keep (W := W) r.dom
theorem CRep.ext {c : Cell} {a : Addr} (r : StRep W G s σ O) (e : Ext G G') (h : CRep W G c a) : CRep W G' c a := by
  obtain ⟨o, q, _⟩ := h.there
  exact h.keep (r.kept e) ((e.h a o q).trans q.symm)
theorem StRep.ext (r : StRep W G s σ O) (e : Ext G G') : StRep W G' s σ O := by
  have k := r.kept e
  have nf : ∀ {c : Cell} {a : Addr}, CRep W G c a → ¬ G.F a → ¬ G'.F a := fun {c a} h n z => by
    obtain ⟨o, q, _⟩ := h.there
    rcases e.f' a z with z | ⟨z, _⟩
    · exact n z
    · rw [q] at z; cases z
  refine ⟨r.len, r.lenO, fun i x hx => ?_, by rw [e.m]; exact r.lenM, fun n c h => ?_, by rw [e.m]; exact r.nd, fun a h => ?_⟩
  · obtain ⟨v, o, h1, h2, h3⟩ := r.slots i x hx
    refine ⟨v, o, h1, h2, ?_⟩
    cases x with
    | no => exact h3
    | sh d => obtain ⟨q, y, e1, e2⟩ := h3; exact ⟨q, y, e1, Rep.keep k d y e2⟩
    | own c => obtain ⟨a, e1, e2, e3, e4⟩ := h3; exact ⟨a, e1, e2, e3.ext r e, nf e3 e4⟩
  · obtain ⟨a, h1, h2, h3⟩ := r.cells n c h
    exact ⟨a, by rw [e.m]; exact h1, h2.ext r e, nf h2 h3⟩
  · rcases e.f' a h with h | ⟨_, h⟩
    · obtain ⟨o, q⟩ := r.dom a h
      exact ⟨o, e.h a o q⟩
    · exact h
theorem StRep.fr (r : StRep W G s σ O) (e : Ext G G') : Frm G (ow O) G' (ow O) :=
  ⟨r.kept e, fun a x h _ _ => e.h a x h, fun a h => (e.f' a h).elim .inl fun z => .inr (.inr z.1), fun _ h => .inl h, fun a h => .inl (by rw [e.m] at h; exact h), fun a x h => ⟨x, e.h a x h⟩⟩
end
end Z

set_option Elab.async false
set_option linter.all false
set_option maxRecDepth 100000
set_option maxHeartbeats 1000000
set_option autoImplicit false
/-! ZOut: readings by the interpreter's answer. -/
namespace Z
open PySem PySem.Spec PyProof.Rows L2

/-- an exception as its class's address and its own dict -/
def XRep (W : Wo) (G : Gh) (x : Exn) (cls : Value) (dx : Option Addr) : Prop := match x with
  | .mk c ds => ∃ C, W.xa c = some C ∧ cls = .ref C ∧ ((dx = none ∧ ds = []) ∨ ∃ d fvs, dx = some d ∧ ds ≠ [] ∧ G.H d = some (.xd fvs) ∧ Reps W G ds (fvs.map (·.2)))
def Out {α β : Type} (W : Wo) (wx : WX) (G : Gh) (O : List (Option Addr)) (σ : L2.St) (R : Gh → List (Option Addr) → Gh → List (Option Addr) → Sta → α → β → Prop) (Q : β → Hp → Prop) : Res α → Prop
  | .ok a s' => ∀ b G' O', Frm G (ow O) G' (ow O') → StRep W G' s' σ O' → R G O G' O' s' a b → Q b G'.H
  | .exn x s' => ∀ G' O', Frm G (ow O) G' (ow O') → StRep W G' s' σ O' → ∀ cls dx, XRep W G' x cls dx → wx cls dx σ G'.H
  | .stuck => False
/-- the relation's base may move on -/
def Mono {α β : Type} (R : Gh → List (Option Addr) → Gh → List (Option Addr) → Sta → α → β → Prop) : Prop :=
  ∀ G O G1 O1 G2 O2 s a b, Frm G (ow O) G1 (ow O1) → R G1 O1 G2 O2 s a b → R G O G2 O2 s a b
section
variable {α β γ : Type} {W : Wo} {wx : WX} {G G1 : Gh} {O O1 : List (Option Addr)} {σ : L2.St} {R : Gh → List (Option Addr) → Gh → List (Option Addr) → Sta → α → β → Prop} {Q : β → Hp → Prop}
theorem Out.shift (m : Mono R) (f : Frm G (ow O) G1 (ow O1)) {r : Res α} (h : Out W wx G O σ R Q r) : Out W wx G1 O1 σ R Q r := by
  cases r with
  | ok a s => exact fun b G' O' fr sr rr => h b G' O' (f.trans fr) sr (m _ _ _ _ _ _ _ _ _ f rr)
  | exn x s => exact fun G' O' fr sr => h G' O' (f.trans fr) sr
  | stuck => exact h
theorem Out.bind {δ : Type} {R1 : Gh → List (Option Addr) → Gh → List (Option Addr) → Sta → γ → δ → Prop} {Q1 : δ → Hp → Prop} (m : Mono R) {r : Res γ} {k : γ → Sta → Res α} (h : Out W wx G O σ R Q (r.bind k))
    (hk : ∀ a s1, r = .ok a s1 → ∀ b G1 O1, Frm G (ow O) G1 (ow O1) → StRep W G1 s1 σ O1 → R1 G O G1 O1 s1 a b → Out W wx G1 O1 σ R Q (k a s1) → Q1 b G1.H) : Out W wx G O σ R1 Q1 r := by
  cases r with
  | ok a s => exact fun b G1 O1 fr sr rr => hk a s rfl b G1 O1 fr sr rr (Out.shift m fr h)
  | exn x s => exact h
  | stuck => exact h
end
/-! ### relations -/
def fresh (G : Gh) (O : List (Option Addr)) (a : Addr) : Prop := a ∈ ow O ∨ G.H a = none
def OwnRep (W : Wo) (G : Gh) (O : List (Option Addr)) (G' : Gh) (O' : List (Option Addr)) (d : D) (v : V) : Prop :=
  ∃ c a, toCell d = some c ∧ v = .ref a ∧ CRep W G' c a ∧ ¬ G'.F a ∧ a ∉ ow O' ∧ a ∉ G'.M ∧ fresh G O a
def RO (W : Wo) (G : Gh) (O : List (Option Addr)) (G' : Gh) (O' : List (Option Addr)) (_ : Sta) (x : Bool × D) (v : V) : Prop :=
  if x.1 = true then OwnRep W G O G' O' x.2 v else Rep W G' x.2 v
def RV (W : Wo) (G : Gh) (O : List (Option Addr)) (G' : Gh) (O' : List (Option Addr)) (_ : Sta) (x : Bool × D) (v : V) : Prop := Rep W G' x.2 v
def ARep (W : Wo) (σ : L2.St) (G : Gh) (x : Arg) (v : V) : Prop := match x with
  | .val d => Rep W G d v
  | .slot i => σ[i]? = some (some v)
def RA (W : Wo) (σ : L2.St) (G : Gh) (O : List (Option Addr)) (G' : Gh) (O' : List (Option Addr)) (_ : Sta) (x : Arg) (v : V) : Prop := ARep W σ G' x v
def RB (G : Gh) (O : List (Option Addr)) (G' : Gh) (O' : List (Option Addr)) (_ : Sta) (x : Bool) (b : Bool) : Prop := x = b
def RVs (W : Wo) (G : Gh) (O : List (Option Addr)) (G' : Gh) (O' : List (Option Addr)) (_ : Sta) (x : List D) (vs : List V) : Prop := Reps W G' x vs
def AReps (W : Wo) (σ : L2.St) (G : Gh) : List Arg → List V → Prop
  | [], vs => vs = []
  | x :: xs, vs => ∃ v r, vs = v :: r ∧ ARep W σ G x v ∧ AReps W σ G xs r
def RAs (W : Wo) (σ : L2.St) (G : Gh) (O : List (Option Addr)) (G' : Gh) (O' : List (Option Addr)) (_ : Sta) (x : List Arg) (vs : List V) : Prop := AReps W σ G' x vs
theorem fresh.mono {G G1 : Gh} {O O1 : List (Option Addr)} {a : Addr} (f : Frm G (ow O) G1 (ow O1)) (h : fresh G1 O1 a) : fresh G O a := by
  rcases h with h | h
  · exact f.ow a h
  · right
    cases e : G.H a with
    | none => rfl
    | some x =>
      obtain ⟨y, q⟩ := f.dm a x e
      rw [h] at q; cases q
section
variable {W : Wo} {σ : L2.St}
theorem mono_RO : Mono (RO W) := fun G O G1 O1 G2 O2 s x v f h => by
  unfold RO at h ⊢
  split
  · rename_i e
    rw [if_pos e] at h
    obtain ⟨c, a, h1, h2, h3, h4, h5, h6, h7⟩ := h
    exact ⟨c, a, h1, h2, h3, h4, h5, h6, h7.mono f⟩
  · rename_i e
    rw [if_neg e] at h
    exact h
theorem mono_RV : Mono (RV W) := fun _ _ _ _ _ _ _ _ _ _ h => h
theorem mono_RA : Mono (RA W σ) := fun _ _ _ _ _ _ _ _ _ _ h => h
theorem mono_RB : Mono RB := fun _ _ _ _ _ _ _ _ _ _ h => h
theorem mono_RVs : Mono (RVs W) := fun _ _ _ _ _ _ _ _ _ _ h => h
theorem mono_RAs : Mono (RAs W σ) := fun _ _ _ _ _ _ _ _ _ _ h => h
end
/-- what nobody else knows is shown: it changes no more -/
theorem OwnRep.freeze {W : Wo} {G G' : Gh} {O O' : List (Option Addr)} {s : Sta} {σ : L2.St} {d : D} {v : V} (f : Frm G (ow O) G' (ow O')) (r : StRep W G' s σ O') (h : OwnRep W G O G' O' d v) :
    ∃ G2 : Gh, G2.H = G'.H ∧ Frm G (ow O) G2 (ow O') ∧ StRep W G2 s σ O' ∧ Rep W G2 d v := by
  obtain ⟨c, a, h1, h2, h3, h4, h5, h6, h7⟩ := h
  let G2 : Gh := ⟨G'.H, fun b => G'.F b ∨ b = a, G'.M⟩
  have k : Keep G' G2 := ⟨fun _ _ e _ => e, fun b hb => ⟨.inl hb, rfl⟩, fun _ _ e => e⟩
  obtain ⟨oa, ha, _⟩ := h3.there
  have nf : ∀ {b : Addr}, b ≠ a → ¬ G'.F b → ¬ G2.F b := fun ne n z => z.elim n ne
  refine ⟨G2, rfl, ⟨f.keep.trans k, f.rest, fun b hb => ?_, f.ow, f.mm, f.dm⟩, ⟨r.len, r.lenO, fun i x hx => ?_, r.lenM, fun n c' hc => ?_, r.nd, fun b hb => ?_⟩, ?_⟩
  · rcases hb with hb | rfl
    · exact f.fz b hb
    · exact .inr h7
  · obtain ⟨v', o', e1, e2, e3⟩ := r.slots i x hx
    refine ⟨v', o', e1, e2, ?_⟩
    cases x with
    | no => exact e3
    | sh d' => obtain ⟨q, y, q1, q2⟩ := e3; exact ⟨q, y, q1, Rep.keep k d' y q2⟩
    | own c' =>
      obtain ⟨b, q1, q2, q3, q4⟩ := e3
      refine ⟨b, q1, q2, q3.keep k rfl, nf (fun z => h5 ?_) q4⟩
      rw [← z]
      exact List.mem_filterMap.mpr ⟨o', List.mem_of_getElem? e2, by rw [q1]; rfl⟩
  · obtain ⟨b, q1, q2, q3⟩ := r.cells n c' hc
    exact ⟨b, q1, q2.keep k rfl, nf (fun z => h6 (z ▸ List.mem_of_getElem? q1)) q3⟩
  · rcases hb with hb | rfl
    · exact r.dom b hb
    · exact ⟨oa, ha⟩
  · subst h2
    cases d with
    | lst ds =>
      cases h1
      obtain ⟨vs, e, q⟩ := h3
      simp only [Rep]
      exact ⟨a, vs, rfl, .inr rfl, e, Reps.keep k ds vs q⟩
    | dct ks us =>
      cases h1
      obtain ⟨kvs, e, q1, q⟩ := h3
      simp only [Rep]
      exact ⟨a, kvs, rfl, .inr rfl, e, q1, Reps.keep k us _ q⟩
    | _ => cases h1

/-! ### readings -/
def tZ {α β : Type} (W : Wo) (wx : WX) (R : L2.St → Gh → List (Option Addr) → Gh → List (Option Addr) → Sta → α → β → Prop) (f : Sta → Res α) (σ : L2.St) (H : Hp) (Q : β → Hp → Prop) : Prop :=
  ∃ (G : Gh) (O : List (Option Addr)) (s : Sta), G.H = H ∧ StRep W G s σ O ∧ Out W wx G O σ (R σ) Q (f s)
abbrev tE (W : Wo) (wx : WX) (f : Sta → Res (Bool × D)) : TE := tZ W wx (fun _ => RO W) f
abbrev tV (W : Wo) (wx : WX) (f : Sta → Res (Bool × D)) : TE := tZ W wx (fun _ => RV W) f
abbrev tR (W : Wo) (wx : WX) (f : Sta → Res Arg) : TE := tZ W wx (fun σ => RA W σ) f
abbrev tB (W : Wo) (wx : WX) (f : Sta → Res Bool) : TT := tZ W wx (fun _ => RB) f
abbrev tVs (W : Wo) (wx : WX) (f : Sta → Res (List D)) : TA := tZ W wx (fun _ => RVs W) f
abbrev tRs (W : Wo) (wx : WX) (f : Sta → Res (List Arg)) : TA := tZ W wx (fun σ => RAs W σ) f
section
variable {W : Wo} {wx : WX}
/-- value reading from the own one -/
theorem tE_of {f : Sta → Res (Bool × D)} {σ : L2.St} {H : Hp} {Q : VK} (h : tV W wx f σ H Q) : tE W wx f σ H Q := by
  obtain ⟨G, O, s, e, r, h⟩ := h
  refine ⟨G, O, s, e, r, ?_⟩
  cases q : f s with
  | stuck => rw [q] at h; exact h
  | exn x s1 => rw [q] at h; exact h
  | ok a s1 =>
    rw [q] at h
    intro v G' O' fr sr rr
    by_cases b : a.1 = true
    · have rr : OwnRep W G O G' O' a.2 v := by
        unfold RO at rr; rw [if_pos b] at rr; exact rr
      obtain ⟨G2, e2, f2, r2, p2⟩ := rr.freeze fr sr
      rw [← e2]
      exact h v G2 O' f2 r2 p2
    · have rr : Rep W G' a.2 v := by
        unfold RO at rr; rw [if_neg b] at rr; exact rr
      exact h v G' O' fr sr rr
theorem pe_weak {X : Cx} {e : Expr} {t t' : TE} (h : PE X e t) (w : ∀ σ H Q, t' σ H Q → t σ H Q) : PE X e t' := ⟨fun pins s σ H Q I q => h.run pins s σ H Q I (w σ H Q q)⟩
theorem pt_weak {X : Cx} {e : Expr} {t t' : TT} (h : PT X e t) (w : ∀ σ H Q, t' σ H Q → t σ H Q) : PT X e t' := ⟨fun pins s σ H Q I q => h.run pins s σ H Q I (w σ H Q q)⟩
theorem pa_weak {X : Cx} {e : List Expr} {t t' : TA} (h : PA X e t) (w : ∀ σ H Q, t' σ H Q → t σ H Q) : PA X e t' := ⟨fun pos pins s σ H Q I q => h.run pos pins s σ H Q I (w σ H Q q)⟩
theorem ps_weak {X : Cx} {e : Stmt} {t t' : TS} (h : PS X e t) (w : ∀ D σ H, t' D σ H → t D σ H) : PS X e t' := ⟨fun pins s σ H D I q => h.run pins s σ H D I (w D σ H q)⟩
theorem pss_weak {X : Cx} {e : List Stmt} {t t' : TS} (h : PSs X e t) (w : ∀ D σ H, t' D σ H → t D σ H) : PSs X e t' := ⟨fun pins s σ H D I q => h.run pins s σ H D I (w D σ H q)⟩
theorem pv_of {X : Cx} {e : Expr} {f : Sta → Res (Bool × D)} (h : PE X e (tE W wx f)) : PE X e (tV W wx f) := pe_weak h fun _ _ _ => tE_of

/-! ### a value that is only looked at -/
def RepW (W : Wo) (G : Gh) : D → V → Prop
  | .lst ds, v => ∃ a vs, v = .ref a ∧ G.H a = some (.lst vs) ∧ Reps W G ds vs
  | .dct ks us, v => ∃ a kvs, v = .ref a ∧ G.H a = some (.dK kvs) ∧ ks = kvs.map (fun p => kD p.1) ∧ Reps W G us (kvs.map (·.2))
  | d, v => Rep W G d v
theorem Rep.w {G : Gh} {d : D} {v : V} (h : Rep W G d v) : RepW W G d v := by
  cases d with
  | lst ds =>
    simp only [Rep] at h
    obtain ⟨a, vs, e, f, s, r⟩ := h
    exact ⟨a, vs, e, s, r⟩
  | dct ks us =>
    simp only [Rep] at h
    obtain ⟨a, vs, e, f, r1, r2, r⟩ := h
    exact ⟨a, vs, e, r1, r2, r⟩
  | _ => exact h
theorem CRep.w {G : Gh} {c : Cell} {a : Addr} {d : D} (h : CRep W G c a) (e : c.view = some d) : RepW W G d (.ref a) := by
  cases c with
  | L ds =>
    cases e
    obtain ⟨vs, q, r⟩ := h
    exact ⟨a, vs, rfl, q, r⟩
  | M ks us =>
    cases e
    obtain ⟨kvs, q, q1, r⟩ := h
    exact ⟨a, kvs, rfl, q, q1, r⟩
  | I c fs => cases e
theorem deref_w {G : Gh} {s : Sta} {σ : L2.St} {O : List (Option Addr)} (r : StRep W G s σ O) {d d' : D} {v : V} (h : Rep W G d v) (e : derefS s.S d = some d') : RepW W G d' v := by
  cases d with
  | ref n =>
    simp only [derefS] at e
    cases q : s.S[n]? with
    | none => rw [q] at e; cases e
    | some c =>
      rw [q] at e
      obtain ⟨a, h1, h2, h3⟩ := r.cells n c q
      simp only [Rep] at h
      obtain ⟨b, rfl, hb⟩ := h
      rw [h1] at hb; cases hb
      exact h2.w e
  | _ => simp only [derefS, Option.some.injEq] at e; subst e; exact h.w
theorem arg_w {G G0 : Gh} {s : Sta} {σ : L2.St} {O O0 : List (Option Addr)} (r : StRep W G s σ O) {x : Arg} {d : D} {v : V} (h : RA W σ G0 O0 G O s x v) (e : x.get s = some d) : RepW W G d v := by
  cases x with
  | val y => exact deref_w r h e
  | slot i =>
    have h : σ[i]? = some (some v) := h
    simp only [Arg.get] at e
    cases q : s.σ[i]? with
    | none => rw [q] at e; cases e
    | some x =>
      rw [q] at e
      obtain ⟨v', o, h1, h2, h3⟩ := r.slots i x q
      rw [h] at h1; cases h1
      cases x with
      | no => cases e
      | sh y =>
        obtain ⟨_, z, hz, rz⟩ := h3
        cases hz
        exact deref_w r rz e
      | own c =>
        obtain ⟨a, _, hz, rc, _⟩ := h3
        cases hz
        exact rc.w e
def RepsW (W : Wo) (G : Gh) : List D → List V → Prop
  | [], vs => vs = []
  | d :: ds, vs => ∃ v r, vs = v :: r ∧ RepW W G d v ∧ RepsW W G ds r
theorem args_w {G : Gh} {s : Sta} {σ : L2.St} {O : List (Option Addr)} (r : StRep W G s σ O) : ∀ {xs : List Arg} {ds : List D} {vs : List V}, AReps W σ G xs vs → getAll s xs = some ds → RepsW W G ds vs
  | [], ds, vs, h, e => by
    simp only [getAll, Option.some.injEq] at e
    subst e
    exact h
  | x :: xs, ds, vs, h, e => by
    obtain ⟨v, vr, rfl, h1, h2⟩ := h
    simp only [getAll] at e
    cases q : x.get s with
    | none => rw [q] at e; cases e
    | some d =>
      cases q2 : getAll s xs with
      | none => rw [q, q2] at e; cases e
      | some dr =>
        rw [q, q2] at e
        cases e
        exact ⟨v, vr, rfl, arg_w (G0 := G) (O0 := O) r h1 q, args_w r h2 q2⟩

/-! ### the end of an operation -/
/-- a new value: a datum, or a fresh object -/
def NewRep (W : Wo) (G G' : Gh) (o : Bool) (d : D) (v : V) : Prop :=
  if o = true then ∃ c a, toCell d = some c ∧ v = .ref a ∧ CRep W G' c a ∧ ¬ G'.F a ∧ G.H a = none ∧ G'.H a ≠ none else Rep W G' d v
def Kont (W : Wo) (G : Gh) (Q : VK) (o : Bool) (d : D) : Prop := ∀ v G', Ext G G' → NewRep W G G' o d v → Q v G'.H
theorem Kont.same {G : Gh} {Q : VK} {d : D} {v : V} (k : Kont W G Q false d) (h : Rep W G d v) : Q v G.H := k v G (.refl G) (by unfold NewRep; rw [if_neg Bool.false_ne_true]; exact h)
/-- laying a fresh tuple -/
theorem ext_new {G : Gh} {p : Addr} {o : HO} (np : G.H p = none) : Ext G ⟨upd G.H p o, G.F, G.M⟩ :=
  ⟨fun a x e => by show upd G.H p o a = some x; rw [upd_ne (ne_of_none e np)]; exact e, fun _ h => h, fun _ h => .inl h, rfl⟩
theorem Kont.tup {G : Gh} (dom : ∀ a, G.F a → ∃ o, G.H a = some o) {Q : VK} {ds : List D} {vs : List V} (k : Kont W G Q false (.tup ds)) (h : Reps W G ds vs) (p : Addr) (np : G.H p = none) : Q (.ref p) (upd G.H p (.tup vs)) := by
  have e := ext_new (o := .tup vs) np
  refine k (.ref p) ⟨upd G.H p (.tup vs), G.F, G.M⟩ e ?_
  unfold NewRep
  rw [if_neg Bool.false_ne_true]
  simp only [Rep]
  exact ⟨p, vs, rfl, .inl (.inl upd_same), Reps.keep (e.keep (W := W) dom) ds vs h⟩
theorem Kont.lst {G : Gh} (dom : ∀ a, G.F a → ∃ o, G.H a = some o) {Q : VK} {ds : List D} {vs : List V} (k : Kont W G Q true (.lst ds)) (h : Reps W G ds vs) (p : Addr) (np : G.H p = none) : Q (.ref p) (upd G.H p (.lst vs)) := by
  have e := ext_new (o := .lst vs) np
  refine k (.ref p) ⟨upd G.H p (.lst vs), G.F, G.M⟩ e ?_
  unfold NewRep
  rw [if_pos rfl]
  refine ⟨.L ds, p, rfl, rfl, ⟨vs, upd_same, Reps.keep (e.keep (W := W) dom) ds vs h⟩, fun z => ?_, np, ?_⟩
  · obtain ⟨o, q⟩ := dom p z
    rw [np] at q; cases q
  · show upd G.H p (.lst vs) p ≠ none
    rw [upd_same]; simp
theorem Kont.of {G : Gh} {s : Sta} {σ : L2.St} {O : List (Option Addr)} (r : StRep W G s σ O) {Q : VK} {o : Bool} {d : D} (h : Out W wx G O σ (RO W) Q (.ok (o, d) s)) : Kont W G Q o d := by
  intro v G' e n
  refine h v G' O (r.fr e) (r.ext e) ?_
  unfold RO
  unfold NewRep at n
  split
  · rename_i b
    have b' : o = true := b
    rw [if_pos b'] at n
    obtain ⟨c, a, h1, h2, h3, h4, h5, h6⟩ := n
    refine ⟨c, a, h1, h2, h3, h4, fun z => ?_, fun z => ?_, .inr h5⟩
    · obtain ⟨x, hx, ex⟩ := List.mem_filterMap.mp z
      obtain ⟨i, hi, hix⟩ := List.mem_iff_getElem.mp hx
      have hi' : i < s.σ.length := by rw [← r.lenO]; exact hi
      obtain ⟨v', o', e1, e2, e3⟩ := r.slots i _ (List.getElem?_eq_getElem hi')
      rw [List.getElem?_eq_getElem hi, hix] at e2
      cases e2
      have ex : x = some a := ex
      subst ex
      cases q : s.σ[i] with
      | no => rw [q] at e3; cases e3
      | sh y => rw [q] at e3; cases e3.1
      | own c2 =>
        rw [q] at e3
        obtain ⟨b, f1, f2, f3, f4⟩ := e3
        cases f1
        obtain ⟨ob, g1, _⟩ := f3.there
        rw [h5] at g1; cases g1
    · rw [e.m] at z
      obtain ⟨n, hn, hna⟩ := List.mem_iff_getElem.mp z
      have hn' : n < s.S.length := by rw [← r.lenM]; exact hn
      obtain ⟨b, f1, f2, f3⟩ := r.cells n _ (List.getElem?_eq_getElem hn')
      rw [List.getElem?_eq_getElem hn, hna] at f1
      cases f1
      obtain ⟨ob, g1, _⟩ := f2.there
      rw [h5] at g1; cases g1
  · rename_i b
    have b' : ¬ o = true := b
    rw [if_neg b'] at n
    exact n
/-- an operation's answer is known -/
theorem prim_end {G : Gh} {s : Sta} {σ : L2.St} {O : List (Option Addr)} (r : StRep W G s σ O) {Q : VK} {as : List Arg} {vs : List V} {p : List D → Option (Bool × D)} (ra : AReps W σ G as vs)
    (h : Out W wx G O σ (RO W) Q ((lift (getAll s as) s).bind fun ds s1 => lift (p ds) s1)) : ∃ ds o d, RepsW W G ds vs ∧ p ds = some (o, d) ∧ Kont W G Q o d := by
  cases q : getAll s as with
  | none => rw [q] at h; exact False.elim h
  | some ds =>
    rw [q] at h
    have h : Out W wx G O σ (RO W) Q (lift (p ds) s) := h
    cases q2 : p ds with
    | none => rw [q2] at h; exact False.elim h
    | some x =>
      obtain ⟨o, d⟩ := x
      rw [q2] at h
      exact ⟨ds, o, d, args_w r ra q, q2, Kont.of r h⟩
end
end Z

set_option Elab.async false
set_option linter.all false
set_option maxRecDepth 100000
set_option maxHeartbeats 1000000
set_option autoImplicit false
/-! ZPrim: the operations on data, by the hand layer's rules. -/
namespace Z
open PySem PySem.Spec PyProof.Rows L2

theorem lim_line : LIM = sizeLine := by rw [sizeLine_eq]; rfl
abbrev Dom (G : Gh) : Prop := ∀ a, G.F a → ∃ o, G.H a = some o
section
variable {W : Wo} {X : Cx} {G : Gh}

/-! ### shapes -/
theorem repw_int {i : Int} {v : V} (h : RepW W G (.int i) v) : v = .int i := by simpa only [RepW, Rep] using h
theorem repw_bl {b : Bool} {v : V} (h : RepW W G (.bl b) v) : v = .bl b := by simpa only [RepW, Rep] using h
theorem repw_non {v : V} (h : RepW W G .non v) : v = .non := by simpa only [RepW, Rep] using h
theorem repw_str {x : List Nat} {v : V} (h : RepW W G (.str x) v) : v = .str (toS x) ∧ TxtOk x := by simpa only [RepW, Rep] using h
theorem repw_tup {ds : List D} {v : V} (h : RepW W G (.tup ds) v) : ∃ a vs, v = .ref a ∧ SqT W.K G.H a vs ∧ Reps W G ds vs := by simpa only [RepW, Rep] using h
theorem rep_int {i : Int} : Rep W G (.int i) (.int i) := by simp only [Rep]
theorem rep_bl {b : Bool} : Rep W G (.bl b) (.bl b) := by simp only [Rep]
theorem rep_non : Rep W G .non .non := by simp only [Rep]
theorem rep_str {x : List Nat} (h : TxtOk x) : Rep W G (.str x) (.str (toS x)) := by simp only [Rep]; exact ⟨trivial, h⟩
theorem rep_strE {x : List Nat} {z : Str} (h : TxtOk x) (e : z.cps.toList = x) : Rep W G (.str x) (.str z) := by
  subst e
  have := rep_str (W := W) (G := G) h
  rwa [toS_of] at this
/-- a two-place operation -/
def rP (W : Wo) (f : D → D → Option (Bool × D)) : R2 := fun x y H Q => ∃ (G : Gh) (d1 d2 : D) (o : Bool) (d : D), G.H = H ∧ Dom G ∧ RepW W G d1 x ∧ RepW W G d2 y ∧ f d1 d2 = some (o, d) ∧ Kont W G Q o d
theorem OpR_of {f : Value → Value → Sem Value} {p : D → D → Option (Bool × D)}
    (h : ∀ (G : Gh) (d1 d2 : D) (o : Bool) (d : D) (x y : V) (Q : VK), Dom G → RepW W G d1 x → RepW W G d2 y → p d1 d2 = some (o, d) → Kont W G Q o d → ∃ r : R2, OpR X f r ∧ r x y G.H Q) : OpR X f (rP W p) := by
  intro pins s σ H x y v u Q I rx ry q
  obtain ⟨G, d1, d2, o, d, rfl, dm, h1, h2, h3, k⟩ := q
  obtain ⟨r, hr, q⟩ := h G d1 d2 o d x y Q dm h1 h2 h3 k
  exact hr pins s σ _ x y v u Q I rx ry q

theorem mulOk_ok {i j : Int} (h : mulOk i j = true) : IntMulOk i j := by
  unfold mulOk at h
  simp only [Bool.or_eq_true, decide_eq_true_eq] at h
  rcases h with (h | h) | h
  · exact CMul.ok (.inl (by omega))
  · exact CMul.ok (.inr (by omega))
  · exact CMulW.ok (show i.natAbs.log2 + j.natAbs.log2 < 1000000 by omega)
def CMulZ (i j : Int) : Prop := mulOk i j = true
theorem op_mulZ : OpR X (binaryOp .Mult) (rI CMulZ fun i j => .int (i * j)) := opI fun _ _ _ _ _ _ _ hc q => mul_int q (mulOk_ok hc)
def CDivZ (_ j : Int) : Prop := divOk j = true
theorem op_divZ : OpR X (binaryOp .FloorDiv) (rI CDivZ fun i j => .int (i / j)) := opI fun i j _ _ _ _ _ hc q => by
  have hc : divOk j = true := hc
  unfold divOk at hc
  simp only [Bool.and_eq_true, Bool.or_eq_true, decide_eq_true_eq] at hc
  obtain ⟨h1, h2⟩ := hc
  refine floordiv_int (by omega) (by rw [Int.fdiv_eq_ediv_of_nonneg i (by omega)]; exact q) (.inl ?_)
  rcases h2 with h2 | h2
  · exact PyProof.noPylong_small (by omega)
  · exact PyProof.noPylong_of_log2 h2
theorem op_mulS : OpR X (binaryOp .Mult) (fun x y H Q => ∃ (z : List Nat) (j : Int), x = .str (toS z) ∧ y = .int j ∧ z.length * j.toNat ≤ LIM ∧ j.natAbs < 1073741824 ∧ Q (.str (toS (List.replicate j.toNat z).flatten)) H) := by
  intro pins s σ H x y v u Q I rx ry h
  obtain ⟨z, j, rfl, rfl, h1, h2, q⟩ := h
  obtain ⟨t, rfl⟩ := rx
  obtain ⟨t', rfl⟩ := ry
  have e : Txt.mul (toS z) j = toS (List.replicate j.toNat z).flatten := by
    unfold Txt.mul
    by_cases hj : j < 1
    · rw [if_pos hj]
      have : j.toNat = 0 := by omega
      rw [this]; rfl
    · rw [if_neg hj]
      by_cases hc : (j == 1 || (toS z).length == 0) = true
      · rw [if_pos hc]
        rw [Bool.or_eq_true] at hc
        rcases hc with hc | hc
        · have : j = 1 := by simpa using hc
          subst this
          simp [toS]
        · rw [toS_len] at hc
          have hz : z = [] := List.length_eq_zero_iff.mp (by simpa using hc)
          subst hz
          simp [toS]
      · rw [if_neg hc]
        have fl : ∀ (k : Nat) (acc : Array Nat), (List.replicate k z.toArray).foldl (· ++ ·) acc = (acc.toList ++ (List.replicate k z).flatten).toArray := fun k => by
          induction k with
          | zero => intro acc; simp
          | succ k ih => intro acc; rw [List.replicate_succ, List.foldl_cons, ih, List.replicate_succ]; simp
        have := fl j.toNat #[]
        show (⟨(List.replicate j.toNat z.toArray).foldl (· ++ ·) #[]⟩ : Str) = _
        rw [this]
        simp [toS]
  refine PySem.SB.mul ⟨?_, fun a b => ?_, fun a b => ?_⟩ fun t' k => ?_
  · have e1 : decide (j < -(2 ^ 63 : Int)) = false := decide_eq_false (by omega)
    have e2 : decide (j ≥ 2 ^ 63) = false := decide_eq_false (by omega)
    rw [e1, e2]; rfl
  · rw [toS_len]
    have hL : LIM = 16777216 := rfl
    have h3 : z.length ≤ LIM := by
      refine Nat.le_trans ?_ h1
      exact Nat.le_mul_of_pos_right _ (by omega)
    have h4 : (8589934591 : Int) ≤ (2 ^ 63 - 1) / j := by
      rw [Int.le_ediv_iff_mul_le (by omega)]
      have : j < 1073741824 := by omega
      have := Int.mul_le_mul_of_nonneg_left (show j ≤ 1073741823 by omega) (show (0 : Int) ≤ 8589934591 by decide)
      omega
    omega
  · have : Builtin.Str.tooLong ((toS z).length * j.toNat) = false := by
      rw [toS_len]
      have hL : LIM = 16777216 := rfl
      unfold Builtin.Str.tooLong
      have hs := sizeLine_eq
      first
        | exact decide_eq_false (by omega)
        | (simp; omega)
    exact this
  · rw [e]
    exact ⟨.str _, H, I.tok _, ⟨_, rfl⟩, q⟩
theorem tl_app (x y : List Nat) : (toS x ++ toS y).cps.toList = x ++ y := by
  have := TL.tl_append (toS x) (toS y)
  simpa [TL.tl] using this
theorem op_bin (hK : W.K = X.K) (op : Operator) : OpR X (binaryOp op) (rP W (binD op)) := by
  refine OpR_of fun G d1 d2 o d x y Q dm h1 h2 h3 k => ?_
  unfold binD at h3
  split at h3
  · cases h3
    cases repw_int h1; cases repw_int h2
    exact ⟨_, op_add, _, _, rfl, rfl, k.same rep_int⟩
  · split at h3
    · rename_i hz
      cases h3
      obtain ⟨rfl, z1⟩ := repw_str h1
      obtain ⟨rfl, z2⟩ := repw_str h2
      refine ⟨_, op_add_str, _, _, rfl, rfl, by rw [toS_len, toS_len, ← lim_line]; exact hz, k.same ?_⟩
      exact rep_strE ⟨by rw [List.length_append]; exact hz, fun c hc => (List.mem_append.mp hc).elim (z1.2 c) (z2.2 c)⟩ (tl_app _ _)
    · cases h3
  · split at h3
    · rename_i hz
      cases h3
      obtain ⟨a, xs, rfl, s1, r1⟩ := repw_tup h1
      obtain ⟨b, ys, rfl, s2, r2⟩ := repw_tup h2
      rw [hK] at s1 s2
      refine ⟨_, op_catA, a, b, xs, ys, rfl, rfl, s1, s2, by rw [r1.len, r2.len, ← lim_line]; exact hz, fun e => ?_, fun _ e => ?_, fun _ _ p np => k.tup dm (r1.append r2) p np⟩
      · subst e
        have e0 := r1.len
        refine k.same ?_
        rw [List.length_eq_zero_iff.mp e0.symm, List.nil_append]
        simp only [Rep]
        exact ⟨b, ys, rfl, hK ▸ s2, r2⟩
      · subst e
        have e0 := r2.len
        refine k.same ?_
        rw [List.length_eq_zero_iff.mp e0.symm, List.append_nil]
        simp only [Rep]
        exact ⟨a, xs, rfl, hK ▸ s1, r1⟩
    · cases h3
  · split at h3
    · rename_i hz
      cases h3
      obtain ⟨a, xs, rfl, s1, r1⟩ := h1
      obtain ⟨b, ys, rfl, s2, r2⟩ := h2
      exact ⟨_, op_cat, a, b, xs, ys, rfl, rfl, s1, s2, by rw [r1.len, r2.len, ← lim_line]; exact hz, fun p np => k.lst dm (r1.append r2) p np⟩
    · cases h3
  · cases h3
    cases repw_int h1; cases repw_int h2
    exact ⟨_, op_sub, _, _, rfl, rfl, k.same rep_int⟩
  · split at h3
    · rename_i hz
      cases h3
      cases repw_int h1; cases repw_int h2
      exact ⟨_, op_mulZ, _, _, rfl, rfl, hz, k.same rep_int⟩
    · cases h3
  · split at h3
    · rename_i hz
      cases h3
      obtain ⟨rfl, z1⟩ := repw_str h1
      cases repw_int h2
      refine ⟨_, op_mulS, _, _, rfl, rfl, hz.1, hz.2, k.same (rep_str ⟨?_, fun c hc => ?_⟩)⟩
      · rw [List.length_flatten, List.map_replicate, List.sum_replicate_nat, Nat.mul_comm]
        exact hz.1
      · obtain ⟨l, hl, hcl⟩ := List.mem_flatten.mp hc
        rw [List.eq_of_mem_replicate hl] at hcl
        exact z1.2 c hcl
    · cases h3
  · split at h3
    · rename_i hz
      cases h3
      obtain ⟨a, xs, rfl, s1, r1⟩ := h1
      cases repw_int h2
      refine ⟨_, op_rep, a, _, xs, rfl, rfl, s1, by omega, by omega, by rw [r1.len, ← lim_line]; exact hz.1, fun p np => k.lst dm ?_ p np⟩
      generalize Int.toNat _ = m
      induction m with
      | zero => simp [Reps]
      | succ m ih => rw [List.replicate_succ, List.replicate_succ, List.flatten_cons, List.flatten_cons]; exact r1.append ih
    · cases h3
  · split at h3
    · rename_i hz
      cases h3
      cases repw_int h1; cases repw_int h2
      exact ⟨_, op_divZ, _, _, rfl, rfl, hz, k.same rep_int⟩
    · cases h3
  · split at h3
    · rename_i hz
      cases h3
      cases repw_int h1; cases repw_int h2
      exact ⟨_, op_mod, _, _, rfl, rfl, hz, k.same rep_int⟩
    · cases h3
  · split at h3
    · rename_i hz
      cases h3
      cases repw_int h1; cases repw_int h2
      exact ⟨_, op_pow, _, _, rfl, rfl, ⟨hz.1, hz.2.1, by have := hz.2.2; omega⟩, k.same rep_int⟩
    · cases h3
  · cases h3

/-! ### comparisons -/
mutual
def toP : D → PyData
  | .bl b => .bool b
  | .int i => .int i
  | .str x => .str (toS x)
  | .tup ds => .tuple (toPs ds)
  | .lst ds => .list (toPs ds)
  | _ => .none
def toPs : List D → List PyData
  | [] => []
  | d :: ds => toP d :: toPs ds
end
mutual
theorem dp_of : ∀ (d : D) (v : V), d.plain = true → Rep W G d v → Dp W.K G.H v (toP d)
  | .non, v, _, h => by
    cases repw_non h.w
    exact .non
  | .bl b, v, _, h => by
    cases repw_bl h.w
    exact .bl b
  | .int i, v, _, h => by
    cases repw_int h.w
    exact .int i
  | .str x, v, _, h => by
    cases (repw_str h.w).1
    exact .str _
  | .tup ds, v, p, h => by
    obtain ⟨a, vs, rfl, s, r⟩ := repw_tup h.w
    simp only [D.plain] at p
    exact .tup s (dps_of ds vs p r)
  | .lst ds, v, p, h => by
    obtain ⟨a, vs, rfl, s, r⟩ := h.w
    simp only [D.plain] at p
    exact .lst (.inl (.inl s)) (dps_of ds vs p r)
  | .dct _ _, _, p, _ => by simp [D.plain] at p
  | .ref _, _, p, _ => by simp [D.plain] at p
  | .fn _, _, p, _ => by simp [D.plain] at p
  | .scr _, _, p, _ => by simp [D.plain] at p
theorem dps_of : ∀ (ds : List D) (vs : List V), plains ds = true → Reps W G ds vs → DpAll W.K G.H vs (toPs ds)
  | [], vs, _, h => by
    simp only [Reps] at h
    subst h
    exact .nil
  | d :: ds, vs, p, h => by
    simp only [Reps] at h
    obtain ⟨v, r, rfl, h1, h2⟩ := h
    simp only [plains, Bool.and_eq_true] at p
    exact .cons (dp_of d v p.1 h1) (dps_of ds r p.2 h2)
end
theorem dp_ofW {d : D} {v : V} (p : d.plain = true) (h : RepW W G d v) : Dp W.K G.H v (toP d) := by
  cases d with
  | lst ds =>
    obtain ⟨a, vs, rfl, s, r⟩ := h
    simp only [D.plain] at p
    exact .lst (.inl (.inl s)) (dps_of ds vs p r)
  | dct _ _ => simp [D.plain] at p
  | _ => exact dp_of _ v p h
theorem toPs_len : ∀ ds : List D, (toPs ds).length = ds.length
  | [] => rfl
  | d :: ds => by simp only [toPs, List.length_cons, toPs_len ds]
theorem strOk_of {x : List Nat} (h : TxtOk x) : PyData.canLay0 (.str (toS x)) = true := by
  show Array.all x.toArray (fun c => decide (c < 0x110000)) = true
  simp only [Array.all_eq_true, List.getElem_toArray, decide_eq_true_eq]
  intro i hi
  exact h.2 _ (List.getElem_mem _)
mutual
theorem lay_of : ∀ (d : D) (v : V), Rep W G d v → (toP d).canLay0 = true
  | .non, _, _ => rfl
  | .bl b, _, _ => rfl
  | .int i, _, _ => rfl
  | .str x, v, h => strOk_of (repw_str h.w).2
  | .tup ds, v, h => by
    obtain ⟨a, vs, rfl, s, r⟩ := repw_tup h.w
    simp only [toP, PyData.canLay0]
    exact lays_of ds vs r
  | .lst ds, v, h => by
    obtain ⟨a, vs, rfl, s, r⟩ := h.w
    simp only [toP, PyData.canLay0]
    exact lays_of ds vs r
  | .dct _ _, _, _ => rfl
  | .ref _, _, _ => rfl
  | .fn _, _, _ => rfl
  | .scr _, _, _ => rfl
theorem lays_of : ∀ (ds : List D) (vs : List V), Reps W G ds vs → PyData.canLayAll0 (toPs ds) = true
  | [], _, _ => rfl
  | d :: ds, vs, h => by
    simp only [Reps] at h
    obtain ⟨v, r, rfl, h1, h2⟩ := h
    simp only [toPs, PyData.canLayAll0, lay_of d v h1, lays_of ds r h2, Bool.and_self]
end
theorem lay_ofW {d : D} {v : V} (h : RepW W G d v) : (toP d).canLay0 = true := by
  cases d with
  | lst ds =>
    obtain ⟨a, vs, rfl, s, r⟩ := h
    simp only [toP, PyData.canLay0]
    exact lays_of ds vs r
  | dct _ _ => rfl
  | _ => exact lay_of (W := W) (G := G) _ v h
mutual
theorem deep_of : ∀ d : D, (toP d).depth = d.deep
  | .non => rfl
  | .bl b => rfl
  | .int i => rfl
  | .str x => rfl
  | .tup ds => by simp only [toP, PyData.depth, D.deep, deeps_of ds]
  | .lst ds => by simp only [toP, PyData.depth, D.deep, deeps_of ds]
  | .dct _ _ => rfl
  | .ref _ => rfl
  | .fn _ => rfl
  | .scr _ => rfl
theorem deeps_of : ∀ ds : List D, PyData.depthAll (toPs ds) = deeps ds
  | [] => rfl
  | d :: ds => by simp only [toPs, PyData.depthAll, deeps, deep_of d, deeps_of ds]
end
theorem beqS (x y : List Nat) : (toS x == toS y) = (x == y) := by
  by_cases h : x = y
  · subst h; simp
  · have : toS x ≠ toS y := fun e => h (toS_inj e)
    rw [beq_eq_false_iff_ne.mpr this, beq_eq_false_iff_ne.mpr h]
mutual
theorem eqv_of : ∀ a b : D, a.plain = true → b.plain = true → PyData.eqv (toP a) (toP b) = a.eqv b
  | .non, b, _, p => by cases b <;> first | rfl | (simp [D.plain] at p)
  | .bl a, b, _, p => by cases b <;> first | rfl | (simp [D.plain] at p; done) | simp [toP, PyData.eqv, D.eqv, b2i]
  | .int a, b, _, p => by cases b <;> first | rfl | (simp [D.plain] at p; done) | simp [toP, PyData.eqv, D.eqv, b2i]
  | .str a, b, _, p => by cases b <;> first | rfl | (simp [D.plain] at p; done) | (simp only [toP, PyData.eqv, D.eqv]; exact beqS _ _)
  | .tup as, b, pa, p => by
    simp only [D.plain] at pa
    cases b <;> first
      | rfl
      | (simp only [D.plain] at p; simp only [toP, PyData.eqv, D.eqv]; exact eqvs_of _ _ pa p)
      | (simp [D.plain] at p)
  | .lst as, b, pa, p => by
    simp only [D.plain] at pa
    cases b <;> first
      | rfl
      | (simp only [D.plain] at p; simp only [toP, PyData.eqv, D.eqv]; exact eqvs_of _ _ pa p)
      | (simp [D.plain] at p)
  | .dct _ _, _, p, _ => by simp [D.plain] at p
  | .ref _, _, p, _ => by simp [D.plain] at p
  | .fn _, _, p, _ => by simp [D.plain] at p
  | .scr _, _, p, _ => by simp [D.plain] at p
theorem eqvs_of : ∀ as bs : List D, plains as = true → plains bs = true → PyData.eqvAll (toPs as) (toPs bs) = eqvs as bs
  | [], [], _, _ => rfl
  | [], _ :: _, _, _ => rfl
  | _ :: _, [], _, _ => rfl
  | a :: as, b :: bs, pa, pb => by
    simp only [plains, Bool.and_eq_true] at pa pb
    simp only [toPs, PyData.eqvAll, eqvs, eqv_of a b pa.1 pb.1, eqvs_of as bs pa.2 pb.2]
end
theorem shaped_of {d : D} {v : V} (h : RepW W G d v) (f : d.fit = true) : SeqAt.shaped (toP d) = true := by
  unfold D.fit at f
  rw [Bool.and_eq_true, decide_eq_true_eq] at f
  show (PyData.canLay0 (toP d) && decide ((toP d).depth ≤ 64)) = true
  rw [lay_ofW h, deep_of, decide_eq_true f.2]
  rfl
theorem fit_plain {d : D} (f : d.fit = true) : d.plain = true := by
  unfold D.fit at f
  rw [Bool.and_eq_true] at f
  exact f.1
theorem ltL_eq : ∀ x y : List Nat, ltL x y = decide (x < y)
  | [], [] => rfl
  | [], _ :: _ => by simp [ltL]
  | _ :: _, [] => by simp [ltL]
  | a :: as, b :: bs => by
    unfold ltL
    by_cases h : a = b
    · subst h
      rw [if_pos rfl, ltL_eq as bs]
      simp [List.cons_lt_cons_iff]
    · rw [if_neg h]
      by_cases h2 : a < b
      · rw [decide_eq_true h2]; exact (decide_eq_true (List.cons_lt_cons_iff.mpr (.inl h2))).symm
      · rw [decide_eq_false h2]
        exact (decide_eq_false (fun z => by
          rcases List.cons_lt_cons_iff.mp z with z | z
          · exact h2 z
          · exact h z.1)).symm
theorem memP (x : D) (px : x.plain = true) : ∀ ds : List D, plains ds = true → ((toPs ds).any fun z => PyData.eqv z (toP x)) = memD x ds
  | [], _ => rfl
  | d :: ds, p => by
    simp only [plains, Bool.and_eq_true] at p
    simp only [toPs, List.any_cons, memD, eqv_of d x p.1 px]
    exact congrArg _ (memP x px ds p.2)

/-! ### keys -/
def toK : D → Option Key
  | .int i => some (.inl i)
  | .str x => some (.inr (toS x))
  | _ => none
theorem toK_kD (k : Key) : toK (kD k) = some k := by
  cases k with
  | inl i => rfl
  | inr x => show some (Sum.inr (toS x.cps.toList)) = _; rw [toS_of]
theorem kD_eqv (a b : Key) : (kD a).eqv (kD b) = decide (a = b) := by
  cases a with
  | inl i =>
    cases b with
    | inl j => rw [key_ll]; rfl
    | inr y => rw [key_lr]; rfl
  | inr x =>
    cases b with
    | inl j => rw [key_rl]; rfl
    | inr y =>
      rw [key_rr]
      show (x.cps.toList == y.cps.toList) = _
      rw [← beqS, toS_of, toS_of, Bool.beq_eq_decide_eq]
theorem key_rep {d : D} {v : V} (h : RepW W G d v) (k : keyOk d = true) : ∃ x, d = kD x ∧ v = kV x := by
  cases d with
  | int i => exact ⟨.inl i, rfl, repw_int h⟩
  | str x => exact ⟨.inr (toS x), rfl, (repw_str h).1⟩
  | _ => cases k
theorem look_rep (k : Key) : ∀ (kvs : List (Key × V)) (us : List D), Reps W G us (kvs.map (·.2)) →
    (lookD (kvs.map fun p => kD p.1) us (kD k) = none ∧ valV kvs k = none) ∨ ∃ d v, lookD (kvs.map fun p => kD p.1) us (kD k) = some d ∧ valV kvs k = some v ∧ Rep W G d v
  | [], us, _ => .inl ⟨by cases us <;> rfl, rfl⟩
  | (k', v) :: r, us, h => by
    cases us with
    | nil => simp [Reps] at h
    | cons d ds =>
      simp only [Reps, List.map_cons] at h
      obtain ⟨v', r', e, h1, h2⟩ := h
      cases e
      simp only [List.map_cons, lookD, kD_eqv]
      by_cases q : k' = k
      · rw [decide_eq_true q, if_pos rfl]
        exact .inr ⟨d, v, rfl, valV_pos q, h1⟩
      · rw [decide_eq_false q, if_neg Bool.false_ne_true, valV_neg q]
        exact look_rep k r ds h2
theorem op_din (hu : X.A.units + 1 < cLine) : OpR X (compareOp .In) (fun y x H Q => ∃ a o, x = .ref a ∧ DGet H a y o ∧ Q (.bl o.isSome) H) := by
  intro pins s σ H y x v u Q I ry rx h
  obtain ⟨a, o, rfl, g, q⟩ := h
  cases rx
  exact d_in hu I g ry fun s3 I3 => ⟨.bl o.isSome, H, I3, rfl, q⟩
theorem op_dnotin (hu : X.A.units + 1 < cLine) : OpR X (compareOp .NotIn) (fun y x H Q => ∃ a o, x = .ref a ∧ DGet H a y o ∧ Q (.bl (!o.isSome)) H) := by
  intro pins s σ H y x v u Q I ry rx h
  obtain ⟨a, o, rfl, g, q⟩ := h
  cases rx
  exact d_notIn hu I g ry fun s3 I3 => ⟨.bl (!o.isSome), H, I3, rfl, q⟩
/-- in a list or tuple of plain data -/
def rInZ (K : PySem.W.Frag) (neg : Bool) : R2 := fun x y H Q => ∃ d ds, Dp K H x d ∧ (Dp K H y (.list ds) ∨ Dp K H y (.tuple ds)) ∧ SeqAt.shaped d = true ∧ PyData.canLayAll0 ds = true ∧ PyData.depthAll ds ≤ 63 ∧ Q (.bl (if neg then !(ds.any fun z => PyData.eqv z d) else ds.any fun z => PyData.eqv z d)) H
theorem room_in {A : Around} {d : PyData} {ds : List PyData} (h : PyData.depthAll ds ≤ 63) (hu : A.units + 65 < cLine) : A.units + 1 + min (PyData.depthAll ds) d.depth < cLine := by omega
theorem op_inZ (hu : X.A.units + 65 < cLine) : OpR X (compareOp .In) (rInZ X.K false) := by
  intro pins s σ H x y v u Q I rx ry h
  obtain ⟨d, ds, hd, he, sd, sl, sz, q⟩ := h
  obtain ⟨as, r1⟩ := Dp.reads I d x v hd rx
  rcases he with he | he
  · obtain ⟨bs, r2⟩ := Dp.reads I (.list ds) y u he ry
    exact SeqAt.in_list_reads r2 r1 sl (SeqAt.canLay_of_shaped sd) (room_in sz hu) ⟨.bl _, H, I, rfl, q⟩
  · obtain ⟨bs, r2⟩ := Dp.reads I (.tuple ds) y u he ry
    exact SeqAt.in_tuple_reads r2 r1 sl (SeqAt.canLay_of_shaped sd) (room_in sz hu) ⟨.bl _, H, I, rfl, q⟩
theorem op_notinZ (hu : X.A.units + 65 < cLine) : OpR X (compareOp .NotIn) (rInZ X.K true) := by
  intro pins s σ H x y v u Q I rx ry h
  obtain ⟨d, ds, hd, he, sd, sl, sz, q⟩ := h
  obtain ⟨as, r1⟩ := Dp.reads I d x v hd rx
  rcases he with he | he
  · obtain ⟨bs, r2⟩ := Dp.reads I (.list ds) y u he ry
    exact SeqAt.notIn_list_reads r2 r1 sl (SeqAt.canLay_of_shaped sd) (room_in sz hu) ⟨.bl _, H, I, rfl, q⟩
  · obtain ⟨bs, r2⟩ := Dp.reads I (.tuple ds) y u he ry
    exact SeqAt.notIn_tuple_reads r2 r1 sl (SeqAt.canLay_of_shaped sd) (room_in sz hu) ⟨.bl _, H, I, rfl, q⟩
theorem op_eqZ (hu : X.A.units + 64 < cLine) (hK : W.K = X.K) {d1 d2 : D} {x y : V} {Q : VK} (h1 : RepW W G d1 x) (h2 : RepW W G d2 y) (f1 : d1.fit = true) (f2 : d2.fit = true) (k : Q (.bl (d1.eqv d2)) G.H) : rEqD X.K x y G.H Q := by
  rw [← hK]
  refine ⟨toP d1, toP d2, dp_ofW (fit_plain f1) h1, dp_ofW (fit_plain f2) h2, shaped_of h1 f1, shaped_of h2 f2, ?_⟩
  rw [eqv_of d1 d2 (fit_plain f1) (fit_plain f2)]
  exact k
theorem op_neZ (hu : X.A.units + 64 < cLine) (hK : W.K = X.K) {d1 d2 : D} {x y : V} {Q : VK} (h1 : RepW W G d1 x) (h2 : RepW W G d2 y) (f1 : d1.fit = true) (f2 : d2.fit = true) (k : Q (.bl (!d1.eqv d2)) G.H) : rNeD X.K x y G.H Q := by
  rw [← hK]
  refine ⟨toP d1, toP d2, dp_ofW (fit_plain f1) h1, dp_ofW (fit_plain f2) h2, shaped_of h1 f1, shaped_of h2 f2, ?_⟩
  rw [eqv_of d1 d2 (fit_plain f1) (fit_plain f2)]
  exact k
theorem in_plain {x : D} {ds : List D} (h : (x.fit && plains ds && decide (deeps ds ≤ 63)) = true) : x.fit = true ∧ plains ds = true ∧ deeps ds ≤ 63 := by
  simp only [Bool.and_eq_true, decide_eq_true_eq] at h
  exact ⟨h.1.1, h.1.2, h.2⟩
theorem op_inD (hu : X.A.units + 65 < cLine) (hK : W.K = X.K) {d1 d2 : D} {b : Bool} {x y : V} {Q : VK} (h1 : RepW W G d1 x) (h2 : RepW W G d2 y) (e : inD d1 d2 = some b) :
    (Q (.bl b) G.H → ∃ r : R2, OpR X (compareOp .In) r ∧ r x y G.H Q) ∧ (Q (.bl (!b)) G.H → ∃ r : R2, OpR X (compareOp .NotIn) r ∧ r x y G.H Q) := by
  cases d2 with
  | lst ds =>
    simp only [inD] at e
    split at e
    · rename_i p
      obtain ⟨p1, p2, p3⟩ := in_plain p
      cases e
      have hp : (D.lst ds).plain = true := by simp only [D.plain]; exact p2
      have lay := lay_ofW h2
      simp only [toP, PyData.canLay0] at lay
      have mm := memP d1 (fit_plain p1) ds p2
      refine ⟨fun q => ⟨_, op_inZ hu, toP d1, toPs ds, hK ▸ dp_ofW (fit_plain p1) h1, .inl (hK ▸ dp_ofW hp h2), shaped_of h1 p1, lay, by rw [deeps_of]; exact p3, ?_⟩,
        fun q => ⟨_, op_notinZ hu, toP d1, toPs ds, hK ▸ dp_ofW (fit_plain p1) h1, .inl (hK ▸ dp_ofW hp h2), shaped_of h1 p1, lay, by rw [deeps_of]; exact p3, ?_⟩⟩
      · rw [mm]; exact q
      · rw [mm]; exact q
    · cases e
  | tup ds =>
    simp only [inD] at e
    split at e
    · rename_i p
      obtain ⟨p1, p2, p3⟩ := in_plain p
      cases e
      have hp : (D.tup ds).plain = true := by simp only [D.plain]; exact p2
      have lay := lay_ofW h2
      simp only [toP, PyData.canLay0] at lay
      have mm := memP d1 (fit_plain p1) ds p2
      refine ⟨fun q => ⟨_, op_inZ hu, toP d1, toPs ds, hK ▸ dp_ofW (fit_plain p1) h1, .inr (hK ▸ dp_ofW hp h2), shaped_of h1 p1, lay, by rw [deeps_of]; exact p3, ?_⟩,
        fun q => ⟨_, op_notinZ hu, toP d1, toPs ds, hK ▸ dp_ofW (fit_plain p1) h1, .inr (hK ▸ dp_ofW hp h2), shaped_of h1 p1, lay, by rw [deeps_of]; exact p3, ?_⟩⟩
      · rw [mm]; exact q
      · rw [mm]; exact q
    · cases e
  | str z =>
    simp only [inD] at e
    split at e
    · rename_i c
      cases e
      obtain ⟨rfl, _⟩ := repw_str h1
      obtain ⟨rfl, _⟩ := repw_str h2
      exact ⟨fun q => ⟨_, op_in_sign, c, toS z, rfl, rfl, q⟩, fun q => ⟨_, op_notIn_sign, c, toS z, rfl, rfl, q⟩⟩
    · cases e
  | dct ks us =>
    simp only [inD] at e
    split at e
    · rename_i p
      obtain ⟨k, rfl, rfl⟩ := key_rep h1 p
      obtain ⟨a, kvs, rfl, e1, rfl, r⟩ := h2
      cases e
      rcases look_rep k kvs us r with ⟨e2, e3⟩ | ⟨d, v, e2, e3, _⟩
      · rw [e2]
        exact ⟨fun q => ⟨_, op_din (by omega), a, none, rfl, e3 ▸ DGet.k e1, q⟩, fun q => ⟨_, op_dnotin (by omega), a, none, rfl, e3 ▸ DGet.k e1, q⟩⟩
      · rw [e2]
        exact ⟨fun q => ⟨_, op_din (by omega), a, some v, rfl, e3 ▸ DGet.k e1, q⟩, fun q => ⟨_, op_dnotin (by omega), a, some v, rfl, e3 ▸ DGet.k e1, q⟩⟩
    · cases e
  | _ => cases e
theorem op_cmp (hu : X.A.units + 65 < cLine) (hK : W.K = X.K) (op : CmpOp) : OpR X (compareOp op) (rP W (cmpD op)) := by
  refine OpR_of fun G d1 d2 o d x y Q dm h1 h2 h3 k => ?_
  unfold cmpD at h3
  split at h3
  · split at h3
    · rename_i f
      rw [Bool.and_eq_true] at f
      cases h3
      exact ⟨_, op_eqD (by omega), op_eqZ (by omega) hK h1 h2 f.1 f.2 (k.same rep_bl)⟩
    · cases h3
  · split at h3
    · rename_i f
      rw [Bool.and_eq_true] at f
      cases h3
      exact ⟨_, op_neD (by omega), op_neZ (by omega) hK h1 h2 f.1 f.2 (k.same rep_bl)⟩
    · cases h3
  · cases h3
    cases repw_int h1; cases repw_int h2
    exact ⟨_, op_lt, _, _, rfl, rfl, k.same rep_bl⟩
  · cases h3
    cases repw_int h1; cases repw_int h2
    exact ⟨_, op_le, _, _, rfl, rfl, k.same rep_bl⟩
  · cases h3
    cases repw_int h1; cases repw_int h2
    exact ⟨_, op_gt, _, _, rfl, rfl, k.same rep_bl⟩
  · cases h3
    cases repw_int h1; cases repw_int h2
    exact ⟨_, op_ge, _, _, rfl, rfl, k.same rep_bl⟩
  · cases h3
    obtain ⟨rfl, _⟩ := repw_str h1
    obtain ⟨rfl, _⟩ := repw_str h2
    refine ⟨_, op_lt_str, _, _, rfl, rfl, ?_⟩
    have := k.same (rep_bl (W := W) (G := G))
    rw [ltL_eq] at this
    exact this
  · cases h3
    obtain ⟨rfl, _⟩ := repw_str h1
    obtain ⟨rfl, _⟩ := repw_str h2
    refine ⟨_, op_gt_str, _, _, rfl, rfl, ?_⟩
    have := k.same (rep_bl (W := W) (G := G))
    rw [ltL_eq] at this
    exact this
  · cases e : inD d1 d2 with
    | none => rw [e] at h3; cases h3
    | some b =>
      rw [e] at h3
      cases h3
      exact (op_inD hu hK h1 h2 e).1 (k.same rep_bl)
  · cases e : inD d1 d2 with
    | none => rw [e] at h3; cases h3
    | some b =>
      rw [e] at h3
      cases h3
      exact (op_inD hu hK h1 h2 e).2 (k.same rep_bl)
  · cases h3
end
end Z

set_option Elab.async false
set_option linter.all false
set_option maxRecDepth 100000
set_option maxHeartbeats 1000000
set_option autoImplicit false
/-! ZPrim2: subscripts, calls of built-ins, methods that change nothing. -/
namespace Z
open PySem PySem.Spec PyProof.Rows L2
section
variable {W : Wo} {X : Cx} {G : Gh}
theorem IxR_of {p : D → D → Option (Bool × D)}
    (h : ∀ (G : Gh) (d1 d2 : D) (o : Bool) (d : D) (x y : V) (Q : VK), Dom G → RepW W G d1 x → RepW W G d2 y → p d1 d2 = some (o, d) → Kont W G Q o d → ∃ r : R2, IxR X r ∧ r x y G.H Q) : IxR X (rP W p) := by
  intro value slice pins s σ H x y v u Q I rx ry q hs
  obtain ⟨G, d1, d2, o, d, rfl, dm, h1, h2, h3, k⟩ := q
  obtain ⟨r, hr, q⟩ := h G d1 d2 o d x y Q dm h1 h2 h3 k
  exact hr value slice pins s σ _ x y v u Q I rx ry q hs
theorem at_rep {ds : List D} {vs : List V} {i : Int} {d : D} (r : Reps W G ds vs) (e : atI ds i = some d) : ∃ v, L2.atI vs i = some v ∧ Rep W G d v := by
  unfold atI at e
  unfold L2.atI
  have el : L2.ixN vs.length i = ixN ds.length i := by rw [r.len]; rfl
  rw [el]
  cases q : ixN ds.length i with
  | none => rw [q] at e; cases e
  | some j =>
    rw [q] at e
    exact r.get e
theorem ix_dict (hu : X.A.units + 1 < cLine) : IxR X (fun x y H Q => ∃ a v, x = .ref a ∧ DGet H a y (some v) ∧ Q v H) := by
  intro value slice pins s σ H x y v u Q I rx ry h hs
  obtain ⟨a, w, rfl, g, q⟩ := h
  cases rx
  exact tail_any (dict_typeIs I g) PySem.F.slot_dict_getitem.lookup (d_getItem hu I g ry fun w' s3 I3 rw' => ⟨w, H, I3, rw', q⟩) hs
theorem ix_Z (hu : X.A.units + 1 < cLine) (hK : W.K = X.K) : IxR X (rP W ixD) := by
  refine IxR_of fun G d1 d2 o d x y Q dm h1 h2 h3 k => ?_
  unfold ixD at h3
  split at h3
  · rename_i ds i
    cases e : atI ds i with
    | none => rw [e] at h3; cases h3
    | some z =>
      rw [e] at h3; cases h3
      obtain ⟨a, vs, rfl, s1, r1⟩ := h1
      cases repw_int h2
      obtain ⟨v, e2, rv⟩ := at_rep r1 e
      exact ⟨_, ix_list, a, vs, i, v, rfl, rfl, .inl (.inl s1), e2, k.same rv⟩
  · rename_i ds i
    cases e : atI ds i with
    | none => rw [e] at h3; cases h3
    | some z =>
      rw [e] at h3; cases h3
      obtain ⟨a, vs, rfl, s1, r1⟩ := repw_tup h1
      cases repw_int h2
      obtain ⟨v, e2, rv⟩ := at_rep r1 e
      exact ⟨_, ix_tup, a, vs, i, v, rfl, rfl, hK ▸ s1, e2, k.same rv⟩
  · rename_i z i
    cases e : atI z i with
    | none => rw [e] at h3; cases h3
    | some c =>
      rw [e] at h3; cases h3
      obtain ⟨rfl, hz⟩ := repw_str h1
      cases repw_int h2
      refine ⟨_, ix_str, toS z, i, c, rfl, rfl, by rw [toS_len, ← lim_line]; exact hz.1, e, k.same (rep_strE ⟨by simp [LIM], fun c' hc => ?_⟩ rfl)⟩
      have : c' = c := by simpa using hc
      subst this
      unfold atI at e
      cases q : ixN z.length i with
      | none => rw [q] at e; cases e
      | some j => rw [q] at e; exact hz.2 _ (List.mem_of_getElem? e)
  · split at h3
    · rename_i p
      obtain ⟨key, rfl, rfl⟩ := key_rep h2 p
      obtain ⟨a, kvs, rfl, e1, rfl, r⟩ := h1
      rcases look_rep key kvs _ r with ⟨e2, e3⟩ | ⟨d', v, e2, e3, rv⟩
      · rw [e2] at h3; cases h3
      · rw [e2] at h3; cases h3
        exact ⟨_, ix_dict hu, a, v, rfl, e3 ▸ DGet.k e1, k.same rv⟩
    · cases h3
  · cases h3
/-! ### slices -/
def rS (W : Wo) (p : D → Option Int → Option Int → Option (Bool × D)) : V → Option Int → Option Int → Hp → VK → Prop :=
  fun x lo hi H Q => ∃ (G : Gh) (d1 : D) (o : Bool) (d : D), G.H = H ∧ Dom G ∧ RepW W G d1 x ∧ p d1 lo hi = some (o, d) ∧ Kont W G Q o d
theorem sIx_eq (n d : Nat) (o : Option Int) : sIx n d o = HT.sIx n d o := by
  cases o with
  | none => rfl
  | some v =>
    show (if v < 0 then (max (v + n) 0).toNat else (min v n).toNat) = if v < 0 then (v + (n : Int)).toNat else min v.toNat n
    split <;> omega
theorem cut_eq {α : Type} (xs : List α) (lo hi : Option Int) : cut xs lo hi = (xs.drop (HT.sIx xs.length 0 lo)).take (HT.sIx xs.length xs.length hi - HT.sIx xs.length 0 lo) := by
  unfold cut
  rw [sIx_eq, sIx_eq]
theorem Reps.cut {ds : List D} {vs : List V} (r : Reps W G ds vs) (lo hi : Option Int) : Reps W G (cut ds lo hi) (cutV vs lo hi) := by
  rw [cut_eq]
  unfold cutV
  rw [r.len]
  exact (r.drop _).take _
theorem cut_mem {α : Type} {xs : List α} {lo hi : Option Int} {c : α} (h : c ∈ cut xs lo hi) : c ∈ xs := List.mem_of_mem_drop (List.mem_of_mem_take h)
theorem cut_len {α : Type} (xs : List α) (lo hi : Option Int) : (cut xs lo hi).length ≤ xs.length := by
  unfold cut
  rw [List.length_take, List.length_drop]
  omega
theorem sl_Z (hK : W.K = X.K) : SlR X (rS W slD) := by
  intro pins s σ H x v vl vu lo hi sl Q I rx hs pl pu q
  obtain ⟨G, d1, o, d, rfl, dm, h1, h3, k⟩ := q
  unfold slD at h3
  split at h3
  · cases h3
    obtain ⟨a, vs, rfl, s1, r1⟩ := h1
    exact sl_list pins s σ _ _ v vl vu lo hi sl Q I rx hs pl pu ⟨a, vs, rfl, .inl (.inl s1), fun p np => k.lst dm (r1.cut lo hi) p np⟩
  · cases h3
    obtain ⟨a, vs, rfl, s1, r1⟩ := repw_tup h1
    refine sl_tupA pins s σ _ _ v vl vu lo hi sl Q I rx hs pl pu ⟨a, vs, rfl, hK ▸ s1, fun z => ?_, fun _ p np => k.tup dm (r1.cut lo hi) p np⟩
    rename_i ds
    have e : cut ds lo hi = ds := by
      rw [cut_eq, ← r1.len, z.1, z.2, List.drop_zero, Nat.sub_zero, r1.len, List.take_length]
    rw [e] at k
    refine k.same ?_
    simp only [Rep]
    exact ⟨a, vs, rfl, s1, r1⟩
  · cases h3
    obtain ⟨rfl, hz⟩ := repw_str h1
    refine sl_str pins s σ _ _ v vl vu lo hi sl Q I rx hs pl pu ⟨_, rfl, by rw [toS_len, ← lim_line]; exact hz.1, k.same (rep_strE ⟨Nat.le_trans (cut_len _ _ _) hz.1, fun c hc => hz.2 c (cut_mem hc)⟩ ?_)⟩
    rw [cut_eq]
    unfold cutS
    rw [toS_len]
  · cases h3

/-! ### calls of built-ins -/
def rC (W : Wo) (p : List D → Option (Bool × D)) : List V → Hp → VK → Prop := fun vs H Q => ∃ (G : Gh) (ds : List D) (o : Bool) (d : D), G.H = H ∧ Dom G ∧ RepsW W G ds vs ∧ p ds = some (o, d) ∧ Kont W G Q o d
theorem CallR_of {f : Value} {p : List D → Option (Bool × D)}
    (h : ∀ (G : Gh) (ds : List D) (o : Bool) (d : D) (vs : List V) (Q : VK), Dom G → RepsW W G ds vs → p ds = some (o, d) → Kont W G Q o d → ∃ r : List V → Hp → VK → Prop, CallR X f r ∧ r vs G.H Q) : CallR X f (rC W p) := by
  intro pins s σ H xs us Q I rx q
  obtain ⟨G, ds, o, d, rfl, dm, h1, h3, k⟩ := q
  obtain ⟨r, hr, q⟩ := h G ds o d xs Q dm h1 h3 k
  exact hr pins s σ _ xs us Q I rx q
theorem one_w {d : D} {vs : List V} (h : RepsW W G [d] vs) : ∃ v, vs = [v] ∧ RepW W G d v := by
  obtain ⟨v, r, rfl, h1, rfl⟩ := h
  exact ⟨v, rfl, h1⟩
theorem two_w {d e : D} {vs : List V} (h : RepsW W G [d, e] vs) : ∃ v u, vs = [v, u] ∧ RepW W G d v ∧ RepW W G e u := by
  obtain ⟨v, r, rfl, h1, u, r2, rfl, h2, rfl⟩ := h
  exact ⟨v, u, rfl, h1, h2⟩
/-- a call with one operand -/
def p1 (f : D → Option (Bool × D)) (ds : List D) : Option (Bool × D) := match ds with
  | [x] => f x
  | _ => none
def p2 (f : D → D → Option (Bool × D)) (ds : List D) : Option (Bool × D) := match ds with
  | [x, y] => f x y
  | _ => none
theorem CallR1 {f : Value} {p : D → Option (Bool × D)}
    (h : ∀ (G : Gh) (x : D) (o : Bool) (d : D) (v : V) (Q : VK), Dom G → RepW W G x v → p x = some (o, d) → Kont W G Q o d → ∃ r : List V → Hp → VK → Prop, CallR X f r ∧ r [v] G.H Q) : CallR X f (rC W (p1 p)) := by
  refine CallR_of fun G ds o d vs Q dm h1 h3 k => ?_
  match ds, h1, h3 with
  | [x], h1, h3 =>
    obtain ⟨v, rfl, w1⟩ := one_w h1
    exact h G x o d v Q dm w1 h3 k
  | [], _, h3 => cases h3
  | _ :: _ :: _, _, h3 => cases h3
theorem CallR2 {f : Value} {p : D → D → Option (Bool × D)}
    (h : ∀ (G : Gh) (x y : D) (o : Bool) (d : D) (v u : V) (Q : VK), Dom G → RepW W G x v → RepW W G y u → p x y = some (o, d) → Kont W G Q o d → ∃ r : List V → Hp → VK → Prop, CallR X f r ∧ r [v, u] G.H Q) : CallR X f (rC W (p2 p)) := by
  refine CallR_of fun G ds o d vs Q dm h1 h3 k => ?_
  match ds, h1, h3 with
  | [x, y], h1, h3 =>
    obtain ⟨v, u, rfl, w1, w2⟩ := two_w h1
    exact h G x y o d v u Q dm w1 w2 h3 k
  | [], _, h3 => cases h3
  | [_], _, h3 => cases h3
  | _ :: _ :: _ :: _, _, h3 => cases h3
theorem call_lenZ (hK : W.K = X.K) : CallR X (.builtin "len") (rC W (p1 lenP)) := by
  refine CallR1 fun G x o d v Q dm h1 h3 k => ?_
  unfold lenP at h3
  cases x with
  | lst es =>
    cases h3
    obtain ⟨a, vs, rfl, s1, r1⟩ := h1
    have e : (es.length : Int) = ((vs.length : Nat) : Int) := by rw [r1.len]
    refine ⟨_, call_len_seq, a, vs, rfl, .inl (.inl (.inl s1)), ?_⟩
    rw [← e]
    exact k.same rep_int
  | tup es =>
    cases h3
    obtain ⟨a, vs, rfl, s1, r1⟩ := repw_tup h1
    have e : (es.length : Int) = ((vs.length : Nat) : Int) := by rw [r1.len]
    refine ⟨_, call_len_seq, a, vs, rfl, .inr (hK ▸ s1), ?_⟩
    rw [← e]
    exact k.same rep_int
  | str z =>
    cases h3
    obtain ⟨rfl, hz⟩ := repw_str h1
    refine ⟨_, call_len_str, toS z, rfl, by rw [toS_len, ← lim_line]; exact hz.1, ?_⟩
    rw [toS_len]
    exact k.same rep_int
  | dct ks us =>
    cases h3
    obtain ⟨a, kvs, rfl, s1, rfl, r1⟩ := h1
    refine ⟨fun xs H Q => ∃ a kvs, xs = [.ref a] ∧ H a = some (.dK kvs) ∧ Q (.int kvs.length) H, ?_, a, kvs, rfl, s1, ?_⟩
    · intro pins s σ H xs us Q I r h
      obtain ⟨a, kvs, rfl, e, q⟩ := h
      obtain ⟨u, rfl, rx⟩ := vals1 r
      cases rx
      exact d_len I (.inl e) fun t s' I' => ⟨.int kvs.length, H, I', ⟨t, rfl⟩, q⟩
    · have := k.same (rep_int (W := W) (G := G))
      rw [List.length_map] at this
      exact this
  | _ => cases h3
theorem call_absZ : CallR X (.builtin "abs") (rC W (p1 absD)) := by
  refine CallR1 fun G x o d v Q dm h1 h3 k => ?_
  cases x with
  | int i =>
    cases h3
    cases repw_int h1
    exact ⟨_, call_abs, i, rfl, k.same rep_int⟩
  | _ => cases h3
theorem reps_seq {x : D} {ds : List D} {v : V} (h : RepW W G x v) (e : seqOf x = some ds) : ∃ a vs, v = .ref a ∧ (G.H a = some (.lst vs) ∨ SqT W.K G.H a vs) ∧ Reps W G ds vs := by
  cases x with
  | lst es =>
    cases e
    obtain ⟨a, vs, rfl, s1, r1⟩ := h
    exact ⟨a, vs, rfl, .inl s1, r1⟩
  | tup es =>
    cases e
    obtain ⟨a, vs, rfl, s1, r1⟩ := repw_tup h
    exact ⟨a, vs, rfl, .inr s1, r1⟩
  | _ => cases e
theorem call_tupleZ (hK : W.K = X.K) : CallR X (.type "tuple") (rC W (p1 tupleD)) := by
  refine CallR1 fun G x o d v Q dm h1 h3 k => ?_
  unfold tupleD at h3
  cases e : seqOf x with
  | none => rw [e] at h3; cases h3
  | some es =>
    rw [e] at h3; cases h3
    obtain ⟨a, ws, rfl, hs, r⟩ := reps_seq h1 e
    rcases hs with hs | hs
    · exact ⟨_, call_tuple_of, a, ws, rfl, .inl ⟨.inl (.inl hs), fun p np => k.tup dm r p np⟩⟩
    · refine ⟨_, call_tuple_of, a, ws, rfl, .inr ⟨hK ▸ hs, k.same ?_⟩⟩
      simp only [Rep]
      exact ⟨a, ws, rfl, hs, r⟩
theorem reps_ints : ∀ ns : List Int, Reps W G (ns.map D.int) (ns.map V.int)
  | [] => by simp [Reps]
  | n :: ns => by
    simp only [List.map_cons, Reps]
    exact ⟨_, _, rfl, rep_int, reps_ints ns⟩
theorem call_listZ (hK : W.K = X.K) : CallR X (.type "list") (rC W (p1 listD)) := by
  refine CallR1 fun G x o d v Q dm h1 h3 k => ?_
  cases x with
  | scr ns =>
    cases h3
    simp only [RepW, Rep] at h1
    obtain ⟨a, rfl, hs⟩ := h1
    exact ⟨_, call_list_of, a, _, rfl, .inl (hK ▸ hs.sq), fun p np => k.lst dm (reps_ints ns) p np⟩
  | lst es =>
    cases h3
    obtain ⟨a, ws, rfl, s1, r1⟩ := h1
    exact ⟨_, call_list_of, a, ws, rfl, .inl (.inl (.inl s1)), fun p np => k.lst dm r1 p np⟩
  | tup es =>
    cases h3
    obtain ⟨a, ws, rfl, s1, r1⟩ := repw_tup h1
    exact ⟨_, call_list_of, a, ws, rfl, .inr (hK ▸ s1), fun p np => k.lst dm r1 p np⟩
  | _ => cases h3
theorem all_digits {x : List Nat} (h : allDig x = true) : NumText.AllDigits x := fun c hc => by
  have := List.all_eq_true.mp h c hc
  simpa using this
theorem call_intZ : CallR X (.type "int") (rC W (p1 intD)) := by
  refine CallR1 fun G x o d v Q dm h1 h3 k => ?_
  cases x with
  | int i =>
    cases h3
    cases repw_int h1
    exact ⟨_, call_int1, .inl ⟨i, rfl, k.same rep_int⟩⟩
  | bl b =>
    cases h3
    cases repw_bl h1
    exact ⟨_, call_int1, .inr ⟨b, rfl, k.same rep_int⟩⟩
  | str z =>
    simp only [intD] at h3
    split at h3
    · rename_i q
      cases h3
      obtain ⟨rfl, hz⟩ := repw_str h1
      refine ⟨_, call_int_str, toS z, _, rfl, PySem.intText_digits (x := toS z) (all_digits q.1) q.2.1 (by rw [toS_len]; omega), by rw [toS_len]; exact q.2.2, ?_⟩
      exact k.same rep_int
    · cases h3
  | _ => cases h3
theorem digits_lt (n : Nat) : ∀ c ∈ digits n, c < 1114112 := fun c hc => by
  have := TL.numL_digits n c hc
  omega
theorem digits_lim {n : Nat} (h : n.log2 < 1920) : (digits n).length ≤ LIM := by
  have h2 : n < 10 ^ 1920 := by
    have : n < 2 ^ 1920 := by
      by_cases hn : n = 0
      · subst hn; exact Nat.two_pow_pos _
      · exact (Nat.log2_lt hn).mp h
    exact Nat.lt_of_lt_of_le this (Nat.pow_le_pow_left (by decide) _)
  have := TL.numL_len (n := n) (k := 1920) (by decide) h2
  show (TL.numL n).length ≤ 16777216
  omega
theorem call_strZ : CallR X (.type "str") (rC W (p1 strD)) := by
  refine CallR1 fun G x o d v Q dm h1 h3 k => ?_
  cases x with
  | int i =>
    simp only [strD] at h3
    split at h3
    · rename_i q
      cases h3
      cases repw_int h1
      refine ⟨_, call_str_int, i, rfl, q.2, k.same (rep_strE ⟨digits_lim q.2, digits_lt _⟩ ?_)⟩
      have e : i = ((i.natAbs : Nat) : Int) := by omega
      have := TL.tl_num i.natAbs
      rw [← e] at this
      exact this
    · cases h3
  | _ => cases h3
theorem call_ordZ : CallR X (.builtin "ord") (rC W (p1 ordD)) := by
  refine CallR1 fun G x o d v Q dm h1 h3 k => ?_
  unfold ordD at h3
  split at h3
  · rename_i c
    cases h3
    obtain ⟨rfl, hz⟩ := repw_str h1
    exact ⟨_, call_ord, toS [c], rfl, rfl, k.same rep_int⟩
  · cases h3
theorem call_divmodZ : CallR X (.builtin "divmod") (rC W (p2 divmodD)) := by
  refine CallR2 fun G x y o d v u Q dm h1 h2 h3 k => ?_
  unfold divmodD at h3
  split at h3
  · rename_i i j
    split at h3
    · rename_i q
      cases h3
      cases repw_int h1
      cases repw_int h2
      unfold divOk at q
      simp only [Bool.and_eq_true, Bool.or_eq_true, decide_eq_true_eq] at q
      refine ⟨_, call_divmodW, i, j, rfl, ⟨q.1, ?_⟩, fun p np => k.tup dm (vs := [.int (i / j), .int (i % j)]) ?_ p np⟩
      · rcases q.2 with z | z
        · exact PyProof.noPylong_small (by omega)
        · exact PyProof.noPylong_of_log2 z
      · simp only [Reps]
        exact ⟨_, _, rfl, rep_int, _, _, rfl, rep_int, rfl⟩
    · cases h3
  · cases h3
theorem allB_rep : ∀ {ds : List D} {vs : List V} {b : Bool}, Reps W G ds vs → allB ds = some b → ∃ bs : List Bool, vs = bs.map V.bl ∧ b = bs.all id
  | [], vs, b, h, e => by
    simp only [Reps] at h
    cases e
    exact ⟨[], h, rfl⟩
  | d :: ds, vs, b, h, e => by
    simp only [Reps] at h
    obtain ⟨v, r, rfl, h1, h2⟩ := h
    cases d with
    | bl c =>
      simp only [allB] at e
      cases q : allB ds with
      | none => rw [q] at e; cases e
      | some c2 =>
        rw [q] at e; cases e
        obtain ⟨bs, rfl, rfl⟩ := allB_rep h2 q
        cases repw_bl h1.w
        exact ⟨c :: bs, rfl, rfl⟩
    | _ => cases e
theorem anyB_rep : ∀ {ds : List D} {vs : List V} {b : Bool}, Reps W G ds vs → anyB ds = some b → ∃ bs : List Bool, vs = bs.map V.bl ∧ b = bs.any id
  | [], vs, b, h, e => by
    simp only [Reps] at h
    cases e
    exact ⟨[], h, rfl⟩
  | d :: ds, vs, b, h, e => by
    simp only [Reps] at h
    obtain ⟨v, r, rfl, h1, h2⟩ := h
    cases d with
    | bl c =>
      simp only [anyB] at e
      cases q : anyB ds with
      | none => rw [q] at e; cases e
      | some c2 =>
        rw [q] at e; cases e
        obtain ⟨bs, rfl, rfl⟩ := anyB_rep h2 q
        cases repw_bl h1.w
        exact ⟨c :: bs, rfl, rfl⟩
    | _ => cases e
theorem sumI_rep : ∀ {ds : List D} {vs : List V} {i : Int}, Reps W G ds vs → sumI ds = some i → ∃ ns : List Int, vs = ns.map V.int ∧ i = ns.sum
  | [], vs, b, h, e => by
    simp only [Reps] at h
    cases e
    exact ⟨[], h, rfl⟩
  | d :: ds, vs, b, h, e => by
    simp only [Reps] at h
    obtain ⟨v, r, rfl, h1, h2⟩ := h
    cases d with
    | int c =>
      simp only [sumI] at e
      cases q : sumI ds with
      | none => rw [q] at e; cases e
      | some c2 =>
        rw [q] at e; cases e
        obtain ⟨bs, rfl, rfl⟩ := sumI_rep h2 q
        cases repw_int h1.w
        exact ⟨c :: bs, rfl, rfl⟩
    | _ => cases e
theorem strsOf_rep : ∀ {ds : List D} {vs : List V} {xs : List (List Nat)}, Reps W G ds vs → strsOf ds = some xs → vs = (xs.map toS).map V.str ∧ ∀ x ∈ xs, TxtOk x
  | [], vs, b, h, e => by
    simp only [Reps] at h
    cases e
    exact ⟨h, fun x hx => by cases hx⟩
  | d :: ds, vs, b, h, e => by
    simp only [Reps] at h
    obtain ⟨v, r, rfl, h1, h2⟩ := h
    cases d with
    | str c =>
      simp only [strsOf] at e
      cases q : strsOf ds with
      | none => rw [q] at e; cases e
      | some c2 =>
        rw [q] at e; cases e
        obtain ⟨rfl, hz⟩ := strsOf_rep h2 q
        obtain ⟨rfl, hc⟩ := repw_str h1.w
        exact ⟨rfl, fun x hx => (List.mem_cons.mp hx).elim (fun z => z ▸ hc) (hz x)⟩
    | _ => cases e
theorem call_allZ (hc : X.calm = true) : CallR X (.builtin "all") (rC W (p1 allD)) := by
  refine CallR1 fun G x o d v Q dm h1 h3 k => ?_
  unfold allD at h3
  split at h3
  · rename_i ds
    cases e : allB ds with
    | none => rw [e] at h3; cases h3
    | some b =>
      rw [e] at h3; cases h3
      obtain ⟨a, vs, rfl, s1, r1⟩ := h1
      obtain ⟨bs, rfl, rfl⟩ := allB_rep r1 e
      exact ⟨_, cr_all hc, a, bs, rfl, .inl (.inl s1), k.same rep_bl⟩
  · cases h3
theorem call_anyZ (hc : X.calm = true) : CallR X (.builtin "any") (rC W (p1 anyD)) := by
  refine CallR1 fun G x o d v Q dm h1 h3 k => ?_
  unfold anyD at h3
  split at h3
  · rename_i ds
    cases e : anyB ds with
    | none => rw [e] at h3; cases h3
    | some b =>
      rw [e] at h3; cases h3
      obtain ⟨a, vs, rfl, s1, r1⟩ := h1
      obtain ⟨bs, rfl, rfl⟩ := anyB_rep r1 e
      exact ⟨_, cr_any hc, a, bs, rfl, .inl (.inl s1), k.same rep_bl⟩
  · cases h3
theorem call_sumZ (hc : X.calm = true) : CallR X (.builtin "sum") (rC W (p1 sumD)) := by
  refine CallR1 fun G x o d v Q dm h1 h3 k => ?_
  unfold sumD at h3
  split at h3
  · rename_i ds
    cases e : sumI ds with
    | none => rw [e] at h3; cases h3
    | some b =>
      rw [e] at h3; cases h3
      obtain ⟨a, vs, rfl, s1, r1⟩ := h1
      obtain ⟨ns, rfl, rfl⟩ := sumI_rep r1 e
      exact ⟨_, cr_sum hc, a, ns, rfl, .inl (.inl s1), k.same rep_int⟩
  · cases h3
end
end Z

set_option Elab.async false
set_option linter.all false
set_option maxRecDepth 100000
set_option maxHeartbeats 2000000
set_option autoImplicit false
/-! ZSort: sorted, of texts. -/
namespace Z
open PySem PySem.Spec PyProof.Rows L2
theorem ltCps_ltL : ∀ x y : List Nat, ltCps x y = ltL x y
  | [], [] => rfl
  | [], _ :: _ => rfl
  | _ :: _, [] => rfl
  | a :: as, b :: bs => by
    simp only [ltCps, ltL]
    by_cases h : a = b
    · subst h
      rw [if_pos rfl, ltCps_ltL as bs]
      have h1 : decide (a < a) = false := by simp
      rw [h1, beq_self_eq_true, Bool.false_or, Bool.true_and]
    · rw [if_neg h]
      have : (a == b) = false := by simpa using h
      rw [this, Bool.false_and, Bool.or_false]
/-- not above -/
def leL (x y : List Nat) : Prop := ltL y x = false
theorem leL_iff {x y : List Nat} : leL x y ↔ ¬ y < x := by
  unfold leL
  rw [ltL_eq, decide_eq_false_iff_not]
theorem leL_refl (x : List Nat) : leL x x := leL_iff.mpr (List.lt_irrefl x)
theorem leL_trans {x y z : List Nat} (h : leL x y) (h2 : leL y z) : leL x z := by
  rw [leL_iff] at h h2 ⊢
  exact fun h3 => h (by
    have h4 : x ≤ y := h
    have h5 : y ≤ z := h2
    have h6 : z < x := h3
    exact absurd (List.le_trans h4 h5) (by exact fun q => q h6))
theorem leL_anti {x y : List Nat} (h : leL x y) (h2 : leL y x) : x = y := by
  rw [leL_iff] at h h2
  exact List.le_antisymm h h2
theorem leL_of_lt {x y : List Nat} (h : ltL x y = true) : leL x y := by
  rw [ltL_eq, decide_eq_true_eq] at h
  rw [leL_iff]
  exact List.lt_asymm h
theorem insL_perm (x : List Nat) : ∀ l, (insL x l).Perm (x :: l)
  | [] => List.Perm.refl _
  | y :: r => by
    unfold insL
    split
    · exact ((insL_perm x r).cons y).trans (List.Perm.swap x y r)
    · exact List.Perm.refl _
theorem sortL_perm : ∀ l, (sortL l).Perm l
  | [] => List.Perm.refl _
  | x :: r => (insL_perm x (sortL r)).trans ((sortL_perm r).cons x)
theorem insL_sorted (x : List Nat) : ∀ {l : List (List Nat)}, l.Pairwise leL → (insL x l).Pairwise leL
  | [], _ => List.pairwise_singleton _ _
  | y :: r, h => by
    obtain ⟨h1, h2⟩ := List.pairwise_cons.mp h
    unfold insL
    split
    · rename_i hl
      refine List.pairwise_cons.mpr ⟨fun z hz => ?_, insL_sorted x h2⟩
      rcases List.mem_cons.mp ((insL_perm x r).mem_iff.mp hz) with rfl | hz
      · exact leL_of_lt hl
      · exact h1 z hz
    · rename_i hl
      have hxy : leL x y := by simpa [leL] using hl
      refine List.pairwise_cons.mpr ⟨fun z hz => ?_, h⟩
      rcases List.mem_cons.mp hz with rfl | hz
      · exact hxy
      · exact leL_trans hxy (h1 z hz)
theorem sortL_sorted : ∀ l, (sortL l).Pairwise leL
  | [] => List.Pairwise.nil
  | x :: r => insL_sorted x (sortL_sorted r)
theorem sorted_uniq : ∀ {l m : List (List Nat)}, l.Perm m → l.Pairwise leL → m.Pairwise leL → l = m
  | [], m, p, _, _ => by rw [List.nil_perm.mp p]
  | x :: l, [], p, _, _ => by have := p.length_eq; simp at this
  | x :: l, y :: m, p, h1, h2 => by
    obtain ⟨a1, a2⟩ := List.pairwise_cons.mp h1
    obtain ⟨b1, b2⟩ := List.pairwise_cons.mp h2
    have e : x = y := by
      have hx : x ∈ y :: m := p.mem_iff.mp List.mem_cons_self
      have hy : y ∈ x :: l := p.mem_iff.mpr List.mem_cons_self
      rcases List.mem_cons.mp hx with rfl | hx
      · rfl
      · rcases List.mem_cons.mp hy with rfl | hy
        · rfl
        · exact leL_anti (a1 y hy) (b1 x hx)
    subst e
    rw [sorted_uniq p.cons_inv a2 b2]
theorem risingS_pw : ∀ {l : List (List Nat)} {x : List Nat}, risingS (toS x) (l.map toS) = true → (x :: l).Pairwise leL
  | [], x, _ => List.pairwise_singleton _ _
  | y :: r, x, h => by
    have h : (!ltCps y x && risingS (toS y) (r.map toS)) = true := h
    rw [Bool.and_eq_true, Bool.not_eq_true', ltCps_ltL] at h
    have ih := risingS_pw h.2
    have hxy : leL x y := h.1
    refine List.pairwise_cons.mpr ⟨fun z hz => ?_, ih⟩
    rcases List.mem_cons.mp hz with rfl | hz
    · exact hxy
    · exact leL_trans hxy ((List.pairwise_cons.mp ih).1 z hz)
theorem sortedS_is {xs : List (List Nat)} {ys : List Str} (p : ys.Perm (xs.map toS)) (h : sortedS ys = true) : ys = (sortL xs).map toS := by
  obtain ⟨zs, rfl⟩ : ∃ zs : List (List Nat), ys = zs.map toS := by
    refine ⟨ys.map fun y => y.cps.toList, ?_⟩
    rw [List.map_map]
    have : (toS ∘ fun y : Str => y.cps.toList) = id := by funext y; exact toS_of y
    rw [this, List.map_id]
  have p2 : zs.Perm xs := by
    have := p.map fun y : Str => y.cps.toList
    rw [List.map_map, List.map_map] at this
    have e : ((fun y : Str => y.cps.toList) ∘ toS) = id := by funext y; rfl
    rwa [e, List.map_id, List.map_id] at this
  have hs : zs.Pairwise leL := by
    cases zs with
    | nil => exact List.Pairwise.nil
    | cons z zs => exact risingS_pw h
  rw [sorted_uniq (p2.trans (sortL_perm xs).symm) hs (sortL_sorted xs)]
section
variable {X : Cx} {W : Wo}
theorem reps_strs {G : Gh} : ∀ {xs : List (List Nat)}, (∀ x ∈ xs, TxtOk x) → Reps W G (xs.map D.str) ((xs.map toS).map V.str)
  | [], _ => by simp [Reps]
  | x :: xs, h => by
    simp only [List.map_cons, Reps]
    exact ⟨_, _, rfl, (by simp only [Rep]; exact ⟨trivial, h x List.mem_cons_self⟩), reps_strs fun y hy => h y (List.mem_cons_of_mem _ hy)⟩
theorem txtB_ok {x : List Nat} (h : txtB x = true) : TxtOk x := by
  simp only [txtB, Bool.and_eq_true, decide_eq_true_eq, List.all_eq_true] at h
  exact h
theorem keys_str : ∀ {kvs : List (Key × V)} {xs : List (List Nat)}, strsOf (kvs.map fun p => kD p.1) = some xs → kvs.map (·.1) = (xs.map toS).map Sum.inr
  | [], xs, h => by cases h; rfl
  | (.inl i, v) :: r, xs, h => by cases h
  | (.inr z, v) :: r, xs, h => by
    have h : (strsOf (r.map fun p => kD p.1)).map (fun c => z.cps.toList :: c) = some xs := h
    cases e : strsOf (r.map fun p => kD p.1) with
    | none => rw [e] at h; cases h
    | some ys =>
      rw [e] at h
      cases h
      simp only [List.map_cons, toS_of]
      rw [keys_str e]
theorem call_sortedZ (hK : W.K = X.K) (hc : X.calm = true) : CallR X (.builtin "sorted") (rC W (p1 sortedD)) := by
  refine CallR1 fun G x o d v Q dm h1 h3 k => ?_
  unfold sortedD at h3
  split at h3
  · rename_i ds
    cases e : strsOf ds with
    | none => rw [e] at h3; cases h3
    | some xs =>
      rw [e] at h3
      simp only at h3
      split at h3
      · rename_i hl
        cases h3
        obtain ⟨a, vs, rfl, s1, r1⟩ := h1
        obtain ⟨rfl, ht⟩ := strsOf_rep r1 e
        refine ⟨_, cr_sortedS, a, xs.map toS, rfl, .inl (.inl s1), by simpa using hl, fun ys p hp hs np => ?_⟩
        rw [sortedS_is hp hs]
        exact k.lst dm (reps_strs fun x hx => ht x ((sortL_perm xs).mem_iff.mp hx)) p np
      · cases h3
  · rename_i ks us
    cases e : strsOf ks with
    | none => rw [e] at h3; cases h3
    | some xs =>
      rw [e] at h3
      simp only at h3
      split at h3
      · rename_i hl
        cases h3
        obtain ⟨a, kvs, rfl, s1, rfl, r1⟩ := h1
        have ht : ∀ x ∈ xs, TxtOk x := fun x hx => txtB_ok (List.all_eq_true.mp hl.2 x hx)
        refine ⟨_, call_sortedD hc, a, kvs, xs.map toS, rfl, .inl s1, keys_str e, by simpa using hl.1, fun ys p hp hs np => ?_⟩
        rw [sortedS_is hp hs]
        exact k.lst dm (reps_strs fun x hx => ht x ((sortL_perm xs).mem_iff.mp hx)) p np
      · cases h3
  · cases h3
end
end Z

set_option Elab.async false
set_option linter.all false
set_option maxRecDepth 100000
set_option maxHeartbeats 1000000
set_option autoImplicit false
/-! ZPrim3: isinstance, sorted, methods. -/
namespace Z
open PySem PySem.Spec PyProof.Rows L2
section
variable {W : Wo} {X : Cx} {G : Gh}
def tyName : Ty → String
  | .int => "int" | .bool => "bool" | .str => "str" | .tuple => "tuple" | .list => "list" | .dict => "dict"
def tyOf : D → Option String
  | .non => some "NoneType"
  | .bl _ => some "bool"
  | .int _ => some "int"
  | .str _ => some "str"
  | .tup _ => some "tuple"
  | .lst _ => some "list"
  | .dct _ _ => some "dict"
  | _ => none
theorem ty_rep (hK : W.K = X.K) {x : D} {v : V} {T : String} (h : RepW W G x v) (e : tyOf x = some T) : TyX X.K G.H v (.type T) := by
  cases x with
  | non => cases e; cases repw_non h; exact .base .non
  | bl b => cases e; cases repw_bl h; exact .base (.bl b)
  | int i => cases e; cases repw_int h; exact .base (.int i)
  | str z => cases e; cases (repw_str h).1; exact .base (.str _)
  | tup ds =>
    cases e
    obtain ⟨a, vs, rfl, s1, r1⟩ := repw_tup h
    rcases s1 with (s1 | ⟨o, s1⟩) | ⟨o, its, n, s1, s2, _⟩
    · exact .base (.tup s1)
    · exact .fTuple s1
    · exact .kTuple (hK ▸ s1) s2
  | lst ds =>
    cases e
    obtain ⟨a, vs, rfl, s1, r1⟩ := h
    exact .base (.lst s1)
  | dct ks us =>
    cases e
    obtain ⟨a, kvs, rfl, s1, _⟩ := h
    exact .base (.dK s1)
  | _ => cases e
theorem kit_tab {K : PySem.W.Frag} (t : Ty) (x : D) (b : Bool) (e : isiD t x = some b) : ∃ T, tyOf x = some T ∧ PySem.W.kitOne K (.type T) (.type (tyName t)) = some b := by
  cases x <;> cases t <;> first
    | (cases e; done)
    | (cases e; refine ⟨_, rfl, kit_ty ?_⟩; decide +kernel)
    | skip
theorem call_isiZ (hK : W.K = X.K) (t : Ty) : CallR X (.builtin "isinstance") (fun vs H Q => ∃ v, vs = [v, .ty (tyName t)] ∧ rC W (p1 (isiP t)) [v] H Q) := by
  intro pins s σ H xs us Q I r q
  obtain ⟨v, rfl, G, ds, o, d, rfl, dm, h1, h3, k⟩ := q
  match ds, h1, h3 with
  | [x], h1, h3 =>
    obtain ⟨v', e, w1⟩ := one_w h1
    cases e
    have h3 : isiP t x = some (o, d) := h3
    unfold isiP at h3
    cases e : isiD t x with
    | none => rw [e] at h3; cases h3
    | some b =>
      rw [e] at h3; cases h3
      obtain ⟨T, e1, e2⟩ := kit_tab (K := X.K) t x b e
      exact call_isi pins s σ _ _ us Q I r ⟨v, .ty (tyName t), .type T, .type (tyName t), b, rfl, .ty _, ty_rep hK w1 e1, e2, k.same rep_bl⟩
  | [], _, h3 => cases h3
  | _ :: _ :: _, _, h3 => cases h3

/-! ### methods -/
def rM (W : Wo) (p : List D → Option (Bool × D)) : V → List V → Hp → VK → Prop := fun x vs H Q => ∃ (G : Gh) (d : D) (ds : List D) (o : Bool) (r : D), G.H = H ∧ Dom G ∧ RepW W G d x ∧ RepsW W G ds vs ∧ p (d :: ds) = some (o, r) ∧ Kont W G Q o r
def m1 (f : D → D → Option (Bool × D)) (ds : List D) : Option (Bool × D) := match ds with
  | [o, x] => f o x
  | _ => none
def m2 (f : D → D → D → Option (Bool × D)) (ds : List D) : Option (Bool × D) := match ds with
  | [o, x, y] => f o x y
  | _ => none
theorem MtR1 {id : String} {p : D → D → Option (Bool × D)}
    (h : ∀ (G : Gh) (d e : D) (o : Bool) (r : D) (x v : V) (Q : VK), Dom G → RepW W G d x → RepW W G e v → p d e = some (o, r) → Kont W G Q o r → ∃ q : V → List V → Hp → VK → Prop, MtR X id q ∧ q x [v] G.H Q) : MtR X id (rM W (m1 p)) := by
  intro pins s σ H x xs v us Q I rx rs q
  obtain ⟨G, d, ds, o, r, rfl, dm, h1, h2, h3, k⟩ := q
  match ds, h2, h3 with
  | [e], h2, h3 =>
    obtain ⟨w, rfl, w2⟩ := one_w h2
    obtain ⟨r, hr, q⟩ := h G d e o r x w Q dm h1 w2 h3 k
    exact hr pins s σ _ x _ v us Q I rx rs q
  | [], _, h3 => cases h3
  | _ :: _ :: _, _, h3 => cases h3
theorem MtR2 {id : String} {p : D → D → D → Option (Bool × D)}
    (h : ∀ (G : Gh) (d e f : D) (o : Bool) (r : D) (x v u : V) (Q : VK), Dom G → RepW W G d x → RepW W G e v → RepW W G f u → p d e f = some (o, r) → Kont W G Q o r → ∃ q : V → List V → Hp → VK → Prop, MtR X id q ∧ q x [v, u] G.H Q) : MtR X id (rM W (m2 p)) := by
  intro pins s σ H x xs v us Q I rx rs q
  obtain ⟨G, d, ds, o, r, rfl, dm, h1, h2, h3, k⟩ := q
  match ds, h2, h3 with
  | [e, f], h2, h3 =>
    obtain ⟨w, w', rfl, w2, w3⟩ := two_w h2
    obtain ⟨r, hr, q⟩ := h G d e f o r x w w' Q dm h1 w2 w3 h3 k
    exact hr pins s σ _ x _ v us Q I rx rs q
  | [], _, h3 => cases h3
  | [_], _, h3 => cases h3
  | _ :: _ :: _ :: _, _, h3 => cases h3
theorem joinL_eq (sep : List Nat) : ∀ xs : List (List Nat), joinL sep xs = TL.joinL sep xs
  | [] => rfl
  | [x] => rfl
  | x :: y :: r => by
    have := joinL_eq sep (y :: r)
    simp only [joinL, TL.joinL] at this ⊢
    rw [this, List.append_assoc]
theorem joinLen_eq (sep : List Nat) : ∀ xs : List (List Nat), joinLen sep xs = ((xs.map toS).map (·.length)).sum + (xs.map toS).length * sep.length
  | [] => by simp [joinLen]
  | x :: r => by
    have := joinLen_eq sep r
    unfold joinLen at this ⊢
    simp only [List.map_cons, List.sum_cons, List.length_cons, this, toS_len, Nat.succ_mul]
    omega
theorem joinL_len (sep : List Nat) : ∀ xs : List (List Nat), (joinL sep xs).length ≤ joinLen sep xs
  | [] => by simp [joinL]
  | [x] => by simp [joinL, joinLen]
  | x :: y :: r => by
    have := joinL_len sep (y :: r)
    unfold joinLen at this ⊢
    simp only [joinL, List.length_append, List.map_cons, List.sum_cons] at this ⊢
    omega
theorem joinL_mem {sep : List Nat} {c : Nat} : ∀ {xs : List (List Nat)}, c ∈ joinL sep xs → c ∈ sep ∨ ∃ x ∈ xs, c ∈ x
  | [], h => by cases h
  | [x], h => .inr ⟨x, by simp, h⟩
  | x :: y :: r, h => by
    simp only [joinL, List.mem_append] at h
    rcases h with (h | h) | h
    · exact .inr ⟨x, by simp, h⟩
    · exact .inl h
    · rcases joinL_mem h with h | ⟨z, h1, h2⟩
      · exact .inl h
      · exact .inr ⟨z, List.mem_cons_of_mem _ h1, h2⟩
theorem mt_joinZ (hK : W.K = X.K) : MtR X "str.join" (rM W (m1 joinD)) := by
  refine MtR1 fun G d z o r x v Q dm h1 w2 h3 k => ?_
  cases d with
  | str sep =>
    simp only [joinD] at h3
    obtain ⟨rfl, hz⟩ := repw_str h1
    cases e : seqOf z with
    | none => simp only [e] at h3; cases h3
    | some es =>
      simp only [e] at h3
      cases e2 : strsOf es with
      | none => simp only [e2] at h3; cases h3
      | some xs =>
        simp only [e2] at h3
        split at h3
        · rename_i hl
          cases h3
          obtain ⟨a, ws, rfl, hs, r⟩ := reps_seq w2 e
          obtain ⟨rfl, ht⟩ := strsOf_rep r e2
          refine ⟨_, mt_join, toS sep, a, xs.map toS, rfl, rfl, hs.elim (fun q => .inl (.inl (.inl q))) (fun q => .inr (hK ▸ q)), ?_, k.same (rep_strE ⟨Nat.le_trans (joinL_len sep xs) hl, fun c hc => ?_⟩ ?_)⟩
          · rw [toS_len]
            have := joinLen_eq sep xs
            have hL : LIM = 16777216 := rfl
            omega
          · rcases joinL_mem hc with hc | ⟨y, hy, hc⟩
            · exact hz.2 c hc
            · exact (ht y hy).2 c hc
          · have := TL.tl_join (toS sep) (xs.map toS)
            rw [TL.join_eq]
            show TL.tl _ = _
            rw [this, joinL_eq, List.map_map]
            congr 1
            exact (List.map_id xs)
        · cases h3
  | _ => cases h3
theorem padded_zero (x : List Nat) (m : Nat) : (PySem.Builtin.Str.padded (toS x) m 0 48).cps.toList = List.replicate m 48 ++ x := by
  simp [PySem.Builtin.Str.padded, toS]
theorem mt_zfillZ : MtR X "str.zfill" (rM W (m1 zfillD)) := by
  refine MtR1 fun G d z o r x v Q dm h1 w2 h3 k => ?_
  unfold zfillD at h3
  split at h3
  · rename_i y n
    split at h3
    · rename_i q
      cases h3
      obtain ⟨rfl, hz⟩ := repw_str h1
      cases repw_int w2
      refine ⟨_, mt_zfill, toS y, n, rfl, rfl, ?_, k.same (rep_strE ⟨?_, fun c hc => ?_⟩ ?_)⟩
      · show (fitsSsize n && !Builtin.Str.tooLong n.toNat) = true
        unfold Builtin.Str.tooLong
        have hs := sizeLine_eq
        have e1 : decide (n.toNat > sizeLine) = false := decide_eq_false (by omega)
        rw [e1]
        simp [fitsSsize]
        omega
      · rw [List.length_append, List.length_replicate]
        have := hz.1
        have hL : LIM = 16777216 := rfl
        omega
      · rcases List.mem_append.mp hc with hc | hc
        · rw [List.eq_of_mem_replicate hc]; decide
        · exact hz.2 c hc
      · unfold Txt.zfill
        rw [toS_len]
        by_cases hn : n ≤ (y.length : Int)
        · rw [if_pos hn]
          have : n.toNat - y.length = 0 := by omega
          rw [this]
          rfl
        · rw [if_neg hn]
          have ha := all_digits q.1
          have : zfilled (toS y) (n.toNat - y.length) = Builtin.Str.padded (toS y) (n.toNat - y.length) 0 48 := by
            unfold zfilled
            have hh : ∀ c, (toS y).cps[0]? = some c → c ≠ 43 ∧ c ≠ 45 := fun c hc => by
              have hc' : y[0]? = some c := by simpa [toS] using hc
              have := ha c (List.mem_of_getElem? hc')
              omega
            split
            · rename_i e
              exact absurd rfl (hh _ e).1
            · rename_i e
              exact absurd rfl (hh _ e).2
            · rfl
          rw [this, padded_zero]
    · cases h3
  · cases h3
theorem mt_getZ1 (hu : X.A.units + 1 < cLine) : MtR X "dict.get" (fun x xs H Q => ∃ a y o, x = .ref a ∧ xs = [y] ∧ DGet H a y o ∧ Q (o.getD .non) H) := by
  intro pins s σ H x xs v us Q I rx rs h
  obtain ⟨a, y, o, rfl, rfl, g, q⟩ := h
  cases rx
  obtain ⟨u, rfl, ry⟩ := vals1 rs
  exact d_get1 hu I g ry fun w' s' I' r' => ⟨_, H, I', r', q⟩
theorem mt_getZ2 (hu : X.A.units + 1 < cLine) : MtR X "dict.get" (fun x xs H Q => ∃ a y z o, x = .ref a ∧ xs = [y, z] ∧ DGet H a y o ∧ Q (o.getD z) H) := by
  intro pins s σ H x xs v us Q I rx rs h
  obtain ⟨a, y, z, o, rfl, rfl, g, q⟩ := h
  cases rx
  obtain ⟨u, u', rfl, ry, rz⟩ := vals2 rs
  exact d_get2 hu I g ry rz fun w' s' I' r' => ⟨_, H, I', r', q⟩
theorem mt_get1Z (hu : X.A.units + 1 < cLine) : MtR X "dict.get" (rM W (m1 get1D)) := by
  refine MtR1 fun G d z o r x v Q dm h1 w2 h3 k => ?_
  cases d with
  | dct ks us =>
    simp only [get1D] at h3
    split at h3
    · rename_i p
      cases h3
      obtain ⟨key, rfl, rfl⟩ := key_rep w2 p
      obtain ⟨a, kvs, rfl, e1, rfl, r⟩ := h1
      rcases look_rep key kvs us r with ⟨e2, e3⟩ | ⟨d', v, e2, e3, rv⟩
      · rw [e2] at k
        exact ⟨_, mt_getZ1 hu, a, kV key, none, rfl, rfl, e3 ▸ DGet.k e1, k.same rep_non⟩
      · rw [e2] at k
        exact ⟨_, mt_getZ1 hu, a, kV key, some v, rfl, rfl, e3 ▸ DGet.k e1, k.same rv⟩
    · cases h3
  | _ => cases h3
theorem flat_rep {d : D} {v : V} (h : RepW W G d v) (f : flatD d = true) : Rep W G d v := by
  cases d with
  | lst _ => cases f
  | dct _ _ => cases f
  | _ => exact h
theorem mt_get2Z (hu : X.A.units + 1 < cLine) : MtR X "dict.get" (rM W (m2 get2D)) := by
  refine MtR2 fun G d z f o r x v u Q dm h1 w2 w3 h3 k => ?_
  cases d with
  | dct ks us =>
    simp only [get2D] at h3
    split at h3
    · rename_i p
      cases h3
      rw [Bool.and_eq_true] at p
      obtain ⟨key, rfl, rfl⟩ := key_rep w2 p.1
      obtain ⟨a, kvs, rfl, e1, rfl, r⟩ := h1
      rcases look_rep key kvs us r with ⟨e2, e3⟩ | ⟨d', v, e2, e3, rv⟩
      · rw [e2] at k
        exact ⟨_, mt_getZ2 hu, a, kV key, u, none, rfl, rfl, e3 ▸ DGet.k e1, k.same (flat_rep w3 p.2)⟩
      · rw [e2] at k
        exact ⟨_, mt_getZ2 hu, a, kV key, u, some v, rfl, rfl, e3 ▸ DGet.k e1, k.same rv⟩
    · cases h3
  | _ => cases h3
theorem findN_none {c : Nat} : ∀ {x : List Nat}, findN c x = none → c ∉ x
  | [], _ => by simp
  | y :: r, h => by
    unfold findN at h
    split at h
    · cases h
    · rename_i n
      cases e : findN c r with
      | none =>
        have := findN_none e
        intro z
        rcases List.mem_cons.mp z with z | z
        · exact n z.symm
        · exact this z
      | some k => rw [e] at h; cases h
theorem findN_some {c : Nat} : ∀ {x : List Nat} {k : Nat}, findN c x = some k → x[k]? = some c ∧ ∀ (j : Nat), j < k → x[j]? ≠ some c
  | [], k, h => by cases h
  | y :: r, k, h => by
    unfold findN at h
    split at h
    · rename_i e
      cases h
      subst e
      exact ⟨rfl, fun j hj => absurd hj (Nat.not_lt_zero j)⟩
    · rename_i n
      cases e : findN c r with
      | none => rw [e] at h; cases h
      | some k' =>
        rw [e] at h
        cases h
        obtain ⟨h1, h2⟩ := findN_some e
        refine ⟨by simpa using h1, fun j hj => ?_⟩
        cases j with
        | zero =>
          simp
          exact n
        | succ j => simpa using h2 j (by omega)
theorem find3_eq (x : List Nat) (c : Nat) (i : Int) (h0 : 0 ≤ i) : Txt.find3 (toS x) (toS [c]) i = match findN c (x.drop i.toNat) with
      | some k => ((i.toNat + k : Nat) : Int)
      | none => -1 := by
  have ef : fromIndex (toS x).length i = i.toNat := by
    unfold fromIndex
    rw [if_neg (by omega)]
    omega
  have gd : ∀ v : Nat, (toS x).cps.getD v 0 = x.getD v 0 := fun v => by simp [toS, Array.getD, List.getD]; split <;> simp_all
  rcases StrLaws.find3_spec (toS x) c i with ⟨h, hn⟩ | ⟨k, h, h1, h2, h3, h4⟩
  · rw [ef] at hn
    have h : Txt.find3 (toS x) (toS [c]) i = -1 := h
    rw [h]
    cases e : findN c (x.drop i.toNat) with
    | none => rfl
    | some k =>
      obtain ⟨a, _⟩ := findN_some e
      rw [List.getElem?_drop] at a
      have hl : i.toNat + k < x.length := (List.getElem?_eq_some_iff.mp a).1
      have := hn (i.toNat + k) (by omega) (by rw [toS_len]; exact hl)
      rw [gd] at this
      exact absurd (by rw [List.getD_eq_getElem?_getD, a]; rfl) this
  · rw [ef] at h1 h4
    have h : Txt.find3 (toS x) (toS [c]) i = (k : Int) := h
    rw [h]
    rw [toS_len] at h2
    rw [gd] at h3
    have hk : x[k]? = some c := by rw [List.getElem?_eq_getElem h2]; rw [List.getD_eq_getElem?_getD, List.getElem?_eq_getElem h2] at h3; simpa using h3
    cases e : findN c (x.drop i.toNat) with
    | none =>
      have := findN_none e
      refine absurd ?_ this
      have : (x.drop i.toNat)[k - i.toNat]? = some c := by rw [List.getElem?_drop]; rw [show i.toNat + (k - i.toNat) = k by omega]; exact hk
      exact List.mem_of_getElem? this
    | some m =>
      obtain ⟨a, b⟩ := findN_some e
      rw [List.getElem?_drop] at a
      have hm : i.toNat + m = k := by
        rcases Nat.lt_trichotomy (i.toNat + m) k with q | q | q
        · have hl : i.toNat + m < x.length := by omega
          have := h4 (i.toNat + m) (by omega) q
          rw [gd] at this
          exact absurd (by rw [List.getD_eq_getElem?_getD, a]; rfl) this
        · exact q
        · have := b (k - i.toNat) (by omega)
          rw [List.getElem?_drop, show i.toNat + (k - i.toNat) = k by omega] at this
          exact absurd hk this
      show (k : Int) = ((i.toNat + m : Nat) : Int)
      rw [hm]
theorem mt_find3Z : MtR X "str.find" (rM W (m2 find3D)) := by
  refine MtR2 fun G d z f o r x v u Q dm h1 w2 w3 h3 k => ?_
  unfold find3D at h3
  split at h3
  · split at h3
    · split at h3
      · rename_i hi
        cases h3
        obtain ⟨rfl, _⟩ := repw_str h1
        obtain ⟨rfl, _⟩ := repw_str w2
        cases repw_int w3
        refine ⟨_, mt_find3, _, _, _, rfl, rfl, ?_⟩
        rw [find3_eq _ _ _ hi]
        exact k.same rep_int
      · cases h3
    · cases h3
  · cases h3
end
end Z

set_option Elab.async false
set_option linter.all false
set_option maxRecDepth 100000
set_option maxHeartbeats 2000000
set_option autoImplicit false
/-! ZChk: does a piece of the text say what an E, a T, an S says? -/
namespace Z
open PySem PySem.Spec PyProof.Rows L2

/-- the names of a program: defs, constants, classes, fields, methods by number -/
structure Nm where
  fn : List Str
  gl : List Str
  cl : List Str
  fl : List Str
  mt : List Str
  ex : List Str
  own : List Nat
  pn : List (List Str)
  kd : List Str := []
def visB (sc : Scope) (x : Str) : Bool := match sc.names.lookup x with
  | some .local => true
  | some .cell => true
  | some .free => true
  | _ => false
def locB (sc : Scope) (x : Str) : Bool := match sc.names.lookup x with
  | some .local => true
  | some .cell => true
  | _ => false
def localB (sc : Scope) (x : Str) : Bool := match sc.names.lookup x with
  | some .local => true
  | _ => false
def glB (sc : Scope) (x : Str) : Bool := match sc.names.lookup x with
  | some .globalImplicit => true
  | _ => false
def okName (x : Str) : Bool := !(x == ("__debug__" : Str)) && !(x == ("__classdict__" : Str)) && !(x == ("__name__" : Str))
def isVar (N : List Str) (sc : Scope) (i : Nat) : Expr → Bool
  | .Name x _ => decide (N[i]? = some x) && visB sc x && okName x
  | _ => false
def isGl (ns : List Str) (sc : Scope) (i : Nat) : Expr → Bool
  | .Name x _ => decide (ns[i]? = some x) && glB sc x && okName x
  | _ => false
def nstar : Expr → Bool
  | .Starred _ _ => false
  | _ => true
def nsup : Expr → Bool
  | .Call (.Name _ _) [] [] _ => false
  | _ => true
def plainIxB : Expr → Bool
  | .Slice _ _ _ _ => false
  | _ => true
/-- a built-in by its name, of one or two operands -/
def isBlt (sc : Scope) (n : String) : Expr → Bool
  | .Name x _ => decide (x = Str.ofString n) && glB sc x
  | _ => false
def bltName : Prim → String
  | .len => "len" | .abs => "abs" | .tupleOf => "tuple" | .listOf => "list" | .intOf => "int" | .strOf => "str" | .ordOf => "ord" | .allOf => "all" | .anyOf => "any" | .sumOf => "sum"
  | .divmodOf => "divmod" | .sortedOf => "sorted" | _ => ""
def bltNames : List String := ["len", "abs", "tuple", "list", "int", "str", "ord", "all", "any", "sum", "divmod", "sorted", "isinstance", "range", "enumerate", "zip", "bool", "dict"]
def litB : D → Const → Bool
  | .non, .none => true
  | .bl b, .bool c => b == c
  | .int i, .int j => i == j
  | .str x, .str z => z.cps.toList == x && decide (x.length ≤ LIM) && x.all fun c => decide (c < 1114112)
  | _, _ => false
/-- the operands -/
def shape (sc : Scope) (p : Prim) (e : Expr) : Option (List Expr) := match p with
  | .bin op => match e with
    | .BinOp a o b _ => if o = op then some [a, b] else none
    | _ => none
  | .cmp op => match e with
    | .Compare a [o] [b] _ => if o = op ∧ behindInMarks o b = false then some [a, b] else none
    | _ => none
  | .neg => match e with
    | .UnaryOp .USub a _ => some [a]
    | _ => none
  | .ix => match e with
    | .Subscript a b _ => if plainIxB b then some [a, b] else none
    | _ => none
  | .rev => match e with
    | .Subscript a (.Slice none none (some (.UnaryOp .USub (.Constant (.int 1) _ _) _)) _) _ => some [a]
    | _ => none
  | .divmodOf => match e with
    | .Call f [a, b] [] _ => if isBlt sc "divmod" f then some [a, b] else none
    | _ => none
  | .isi t => match e with
    | .Call f [a, b] [] _ => if isBlt sc "isinstance" f ∧ isBlt sc (tyName t) b then some [a] else none
    | _ => none
  | .isNone n => match e with
    | .Compare a [o] [.Constant .none _ _] _ => if o = (if n then .IsNot else .Is) then some [a] else none
    | _ => none
  | p => match e with
    | .Call f [a] [] _ => if isBlt sc (bltName p) f then some [a] else none
    | _ => none
def mpName : MPrim → String
  | .join => "join" | .zfill => "zfill" | .find3 => "find" | .get1 => "get" | .get2 => "get" | .index => "index" | .startswith => "startswith"
def mar : MPrim → Nat
  | .join => 1 | .zfill => 1 | .find3 => 2 | .get1 => 1 | .get2 => 2 | .index => 99 | .startswith => 99
def uar : Mut → Nat
  | .append => 1 | .pop => 0 | .extend => 1 | .insert => 2 | .popAt => 99
def muName : Mut → String
  | .append => "append" | .pop => "pop" | .extend => "extend" | .insert => "insert" | .popAt => "pop"
/-- a method called: the receiver, the operands -/
def mshape (n : String) (e : Expr) : Option (Expr × List Expr) := match e with
  | .Call (.Attribute o name apos) es [] pos => if name = Str.ofString n ∧ nsup o = true ∧ (apos.endLine == pos.line) = true ∧ es.length < 20 then some (o, es) else none
  | _ => none
def bopIs (b : Bool) : BoolOp → Bool
  | .And => b
  | .Or => !b
/-- an expression whose test is its value's truth -/
def plainT : Expr → Bool
  | .Compare _ _ _ _ => false
  | .BoolOp _ _ _ => false
  | .UnaryOp .Not _ _ => false
  | .IfExp _ _ _ _ => false
  | _ => true
def rgShape (sc : Scope) (n : String) (e : Expr) : Option (List Expr) := match e with
  | .Call f es [] _ => if isBlt sc n f then some es else none
  | _ => none
mutual
def tgv : Tg → List Nat
  | .v i => [i]
  | .tup ts => tgvs ts
def tgvs : List Tg → List Nat
  | [] => []
  | t :: ts => tgv t ++ tgvs ts
end
mutual
def chkTg (N : List Str) (sc : Scope) : Expr → Tg → Bool
  | e, .v i => match e with
    | .Name x _ => decide (N[i]? = some x) && locB sc x
    | _ => false
  | e, .tup ts => match e with
    | .Tuple es _ _ => chkTgs N sc es ts
    | _ => false
def chkTgs (N : List Str) (sc : Scope) : List Expr → List Tg → Bool
  | [], [] => true
  | e :: es, t :: ts => chkTg N sc e t && nstar e && chkTgs N sc es ts
  | _, _ => false
end
def keyLits : List (Option Expr) → List D → Bool
  | [], [] => true
  | some (.Constant c _ _) :: es, d :: ds => litB d c && keyOk d && keyLits es ds
  | _, _ => false
def notSet : Expr → Bool
  | .Set _ _ _ => false
  | _ => true
def isTupE : Expr → Bool
  | .Tuple _ _ _ => true
  | _ => false
/-- a target of this kind -/
def itTg : It → Expr → Bool
  | .enum _, e => isTupE e
  | .zip _ _, e => isTupE e
  | _, _ => true
mutual
def chkE (n : Nm) (N : List Str) (sc : Scope) : Expr → E → Bool
  | e, .v i => isVar N sc i e
  | e, .lit d => match e with
    | .Constant c _ _ => litB d c
    | _ => false
  | e, .g i => isGl n.gl sc i e
  | e, .fn f => isGl n.fn sc f e
  | e, .pr p is => match shape sc p e with
    | some es => chkEs n N sc es is
    | none => false
  | e, .sl a lo hi => match e with
    | .Subscript x (.Slice l h none _) _ => chkE n N sc x a && chkO n N sc l lo && chkO n N sc h hi
    | _ => false
  | e, .mp m o is => match mshape (mpName m) e with
    | some (x, es) => es.length == mar m && chkE n N sc x o && chkEs n N sc es is
    | none => false
  | e, .mu m o is => match mshape (muName m) e with
    | some (x, es) => es.length == uar m && chkE n N sc x o && chkEs n N sc es is
    | none => false
  | e, .tup is => match e with
    | .Tuple es _ _ => chkEs n N sc es is
    | _ => false
  | e, .lst is => match e with
    | .List es _ => chkEs n N sc es is
    | _ => false
  | e, .dct ks is => match e with
    | .Dict es vs _ => keyLits es ks && decide (es.length = vs.length) && decide (es.length ≤ 15) && chkEs n N sc vs is
    | _ => false
  | e, .dcomp tg vs it ifs y x => match e with
    | .DictComp ke elt [⟨te, ie, ce, k⟩] scope _ => k == 0 && chkIt n N sc ie it && itTg it te && notSet ie && blkC N sc scope (vs.map fun v => (N.getD v Str.empty, v)) && chkTg N scope te tg && (tgv tg).all (fun v => decide (v ∈ vs)) && chkTs n N (relS scope sc) ce ifs && chkE n N (relS scope sc) ke y && chkE n N (relS scope sc) elt x && (vs.all fun v => decide (v < N.length))
    | _ => false
  | e, .kin ng g x => match e with
    | .Compare a [o] [b] _ => decide (o = if ng then .NotIn else .In) && isGl n.kd sc g b && chkE n N sc a x
    | _ => false
  | e, .kix g x => match e with
    | .Subscript a b _ => plainIxB b && isGl n.kd sc g a && chkE n N sc b x
    | _ => false
  | e, .cell i => chkE n N sc e i
  | e, .call f is => match e with
    | .Call g es [] _ => isGl n.fn sc f g && chkEs n N sc es is
    | _ => false
  | e, .callv i is => match e with
    | .Call g es [] _ => isVar N sc i g && !es.isEmpty && chkEs n N sc es is
    | _ => false
  | e, .notV i => match e with
    | .UnaryOp .Not x _ => chkE n N sc x i
    | _ => false
  | e, .bopV b is => match e with
    | .BoolOp op es _ => bopIs b op && chkEs n N sc es is
    | _ => false
  | e, .ite t a b => match e with
    | .IfExp c x y _ => chkT n N sc c t && chkE n N sc x a && chkE n N sc y b
    | _ => false
  | e, .comp tg vs it ifs x => match e with
    | .ListComp elt [⟨te, ie, ce, k⟩] scope _ => k == 0 && chkIt n N sc ie it && itTg it te && notSet ie && blkC N sc scope (vs.map fun v => (N.getD v Str.empty, v)) && chkTg N scope te tg && (tgv tg).all (fun v => decide (v ∈ vs)) && chkTs n N (relS scope sc) ce ifs && chkE n N (relS scope sc) elt x && (vs.all fun v => decide (v < N.length))
    | _ => false
  | _, .fld _ _ => false
  | _, .mk _ _ => false
  | _, .mc _ _ _ => false
def chkO (n : Nm) (N : List Str) (sc : Scope) : Option Expr → Option E → Bool
  | none, none => true
  | some e, some i => chkE n N sc e i
  | _, _ => false
def chkEs (n : Nm) (N : List Str) (sc : Scope) : List Expr → List E → Bool
  | [], [] => true
  | e :: es, i :: is => chkE n N sc e i && nstar e && chkEs n N sc es is
  | _, _ => false
def chkT (n : Nm) (N : List Str) (sc : Scope) : Expr → T → Bool
  | e, .cmp op a b => match e with
    | .Compare x [o] [y] _ => decide (o = op) && !behindInMarks o y && chkE n N sc x a && chkE n N sc y b
    | _ => false
  | e, .e a => plainT e && chkE n N sc e a
  | e, .not t => match e with
    | .UnaryOp .Not x _ => chkT n N sc x t
    | _ => false
  | e, .kin ng g x => match e with
    | .Compare a [o] [b] _ => decide (o = if ng then .NotIn else .In) && isGl n.kd sc g b && chkE n N sc a x
    | _ => false
  | e, .isN ng x => match e with
    | .Compare a [o] [.Constant .none _ _] _ => decide (o = if ng then .IsNot else .Is) && chkE n N sc a x
    | _ => false
  | e, .bop b ts => match e with
    | .BoolOp op es _ => bopIs b op && chkTs n N sc es ts
    | _ => false
def chkTs (n : Nm) (N : List Str) (sc : Scope) : List Expr → List T → Bool
  | [], [] => true
  | e :: es, t :: ts => chkT n N sc e t && nstar e && chkTs n N sc es ts
  | _, _ => false
def chkIt (n : Nm) (N : List Str) (sc : Scope) : Expr → It → Bool
  | e, .seq i => chkE n N sc e i
  | e, .rng is => match rgShape sc "range" e with
    | some es => decide (es.length ≤ 3) && chkEs n N sc es is
    | none => false
  | e, .enum i => match rgShape sc "enumerate" e with
    | some [a] => chkE n N sc a i
    | _ => false
  | e, .zip i j => match rgShape sc "zip" e with
    | some [a, b] => chkE n N sc a i && chkE n N sc b j
    | _ => false
end

/-! ### the context of a body -/
/-- what a def promises: the interpreter's answer -/
def FrF (G G' : Gh) : Prop := Frm G [] G' []
def CsRep (W : Wo) (G : Gh) (S : List Cell) : Prop := G.M.length = S.length ∧ (∀ (n : Nat) (c : Cell), S[n]? = some c → ∃ a : Addr, G.M[n]? = some a ∧ CRep W G c a ∧ ¬ G.F a) ∧ G.M.Nodup ∧ Dom G
def spZ (W : Wo) (f : List D → List Cell → FRes) : Sp := fun vs H Q E => ∃ (G : Gh) (ds : List D) (S : List Cell), G.H = H ∧ CsRep W G S ∧ Reps W G ds vs ∧ match f ds S with
  | .ok o d S' => ∀ v G', FrF G G' → CsRep W G' S' → RO W G [] G' [] ⟨[], S'⟩ (o, d) v → Q v G'.H
  | .exn x S' => ∀ G' cls dx, FrF G G' → CsRep W G' S' → XRep W G' x cls dx → E cls dx G'.H
  | .stuck => False
structure FnFact (W : Wo) (X : Cx) (k : Nat) (nm : Nm) (t : Tbl) (f : Nat) (fn : Fn) : Prop where
  ex : ∃ (x : Str) (a : Addr) (fd : FuncData) (ps : List Str), nm.fn[f]? = some x ∧ W.fa f = some a ∧ X.mg x = some (.ref a) ∧ PySem.W.keepIn X.K (.ref a) = true ∧ Binds X.K fd ps [] ∧ ps.length = fn.np ∧
    FnOk X.prog X.w X.K X.mg X.base (CX X.prog X.w) (2 * k) a fd ps (spZ W (Phi t k f))
/-- the exceptions' classes -/
structure ExF (W : Wo) (nm : Nm) (t : Tbl) (K : PySem.W.Frag) (mg : Str → Option Value) : Prop where
  xa : ∀ (c : Nat) (C : Addr), W.xa c = some C → ∃ x, nm.ex[c]? = some x
  cls : ∀ (c : Nat) (x : Str), nm.ex[c]? = some x → ∃ C : Addr, W.xa c = some C ∧ mg x = some (.ref C) ∧ PySem.W.keepIn K (.ref C) = true ∧ PySem.W.subIn K (.ref C) (.type "BaseException") = some true ∧ PySem.W.typeIn K (.ref C) = some (.type "type") ∧ ExcC K C
  own : ∀ (c : Nat) (C : Addr), c ∈ nm.own → W.xa c = some C → ∃ (bmB : List Value) (B newId initId : String), ExcBaseFacts B newId initId bmB ∧ PySem.W.excIn K C bmB newId = true
  sub : ∀ (c c' : Nat) (C C' : Addr), W.xa c = some C → W.xa c' = some C' → PySem.W.exmOne K (.ref C') (.ref C) = some (t.sub c' c) ∧ PySem.W.kitOne K (.ref C') (.ref C) = some (t.sub c' c)
/-- a written dict of the module: what is known of it -/
structure KdF (t : Tbl) (nm : Nm) (K : PySem.W.Frag) (w : World) (mg : Str → Option Value) : Prop where
  ex : ∀ (g : Nat) (x : Str), nm.kd[g]? = some x → ∃ (d : Addr) (es : Array DictEntry) (n : Nat), mg x = some (.ref d) ∧ KDict K w d es n ∧
    ∀ (z : List Nat) (r : Option Int), (t.kd g).lookup z = some r → match r with
      | none => PySem.W.nsIn K d (toS z) = some none
      | some i => ∃ u, PySem.W.nsIn K d (toS z) = some (some u) ∧ RelV (.int i) u
structure Cok (W : Wo) (nm : Nm) (t : Tbl) (k : Nat) (wx : WX) (N : List Str) (sc ws : Scope) (X : Cx) : Prop where
  eK : W.K = X.K
  eN : X.N = N
  nd : N.Nodup
  eS : X.env.scope = sc
  calm : X.calm = true
  room : Room (2 * k + 1) X.A
  tk : Takes X wx
  flen : nm.fn.length = t.fns.length
  fns : ∀ f fn, t.fns[f]? = some fn → FnFact W X k nm t f fn
  gls : ∀ n d, t.glob n = some d → ∃ (x : Str) (u : Value) (v : V), nm.gl[n]? = some x ∧ X.mg x = some u ∧ RelV v u ∧ ∀ G, Rep W G d v
  blt : ∀ x ∈ bltNames, X.mg (Str.ofString x) = none
  fa : ∀ (f : Nat) (a : Addr), W.fa f = some a → f < t.fns.length
  exc : ExF W nm t X.K X.mg
  kds : KdF t nm X.K X.w X.mg
  wr : ∀ x, locB ws x = true → Loc X.env.scope x ∧ (X.fn x = true ∨ X.env.scope.names.lookup x = some .local)
end Z

set_option Elab.async false
set_option linter.all false
set_option maxRecDepth 100000
set_option maxHeartbeats 2000000
set_option autoImplicit false
/-! ZSnd: what is checked is so: expressions. -/
namespace Z
open PySem PySem.Spec PyProof.Rows L2

theorem bind_assoc {α β γ : Type} (r : Res α) (f : α → Sta → Res β) (g : β → Sta → Res γ) : (r.bind f).bind g = r.bind fun a s => (f a s).bind g := by
  cases r <;> rfl
section
variable {W : Wo} {wx : WX} {X : Cx} {P : Prog}
structure EOk (W : Wo) (wx : WX) (X : Cx) (P : Prog) (i : E) (e : Expr) : Prop where
  pe : PE X e (tE W wx (ev P i))
  var : ∀ j, i = .v j → PE X e (tVar j)
  ns : nstar e = true
inductive EOks (W : Wo) (wx : WX) (X : Cx) (P : Prog) : List E → List Expr → Prop where
  | nil : EOks W wx X P [] []
  | cons {i : E} {e : Expr} {is : List E} {es : List Expr} : EOk W wx X P i e → EOks W wx X P is es → EOks W wx X P (i :: is) (e :: es)
theorem EOk.pv {i : E} {e : Expr} (h : EOk W wx X P i e) : PE X e (tV W wx (ev P i)) := pv_of h.pe
theorem Out.refl_ok {α β : Type} {G : Gh} {O : List (Option Addr)} {σ : L2.St} {R : Gh → List (Option Addr) → Gh → List (Option Addr) → Sta → α → β → Prop} {Q : β → Hp → Prop} {s : Sta} {a : α} {b : β} (r : StRep W G s σ O) (h : Out W wx G O σ R Q (.ok a s)) (rr : R G O G O s a b) : Q b G.H :=
  h b G O (.refl G _) r rr
/-- an operand's reading -/
theorem EOk.pr {i : E} {e : Expr} (h : EOk W wx X P i e) : PE X e (tR W wx (rdArg i (ev P i))) := by
  have gen : (∀ s, rdArg i (ev P i) s = (ev P i s).bind fun x s1 => .ok (.val x.2) s1) → PE X e (tR W wx (rdArg i (ev P i))) := fun eq => pe_weak h.pv fun σ H Q q => by
    obtain ⟨G, O, s, e1, r, q⟩ := q
    refine ⟨G, O, s, e1, r, ?_⟩
    rw [eq] at q
    exact Out.bind mono_RA q fun a s1 _ b G1 O1 fr r1 rr h1 => Out.refl_ok r1 h1 rr
  cases i with
  | v j =>
    refine pe_weak (h.var j rfl) fun σ H Q q => ?_
    obtain ⟨G, O, s, rfl, r, q⟩ := q
    have q : Out W wx G O σ (RA W σ) Q (match s.σ[j]? with
      | some (.sh d) => .ok (.val d) s
      | some (.own _) => .ok (.slot j) s
      | _ => .stuck) := q
    cases e : s.σ[j]? with
    | none => rw [e] at q; exact q.elim
    | some x =>
      rw [e] at q
      obtain ⟨v, o, h1, h2, h3⟩ := r.slots j x e
      cases x with
      | no => exact q.elim
      | sh d =>
        obtain ⟨_, y, rfl, ry⟩ := h3
        exact ⟨y, h1, Out.refl_ok (b := y) r q ry⟩
      | own c =>
        obtain ⟨a, _, rfl, _⟩ := h3
        exact ⟨.ref a, h1, Out.refl_ok (b := V.ref a) r q h1⟩
  | _ => exact gen fun s => rfl
theorem star_of {e : Expr} {es : List Expr} {env : Env} (h : nstar e = true) : starEach (e :: es) env = (false, eval e env) :: starEach es env := by
  cases e <;> first
    | rfl
    | cases h
theorem stars_of {is : List E} {es : List Expr} (h : EOks W wx X P is es) (env : Env) : starEach es env = es.map fun e => (false, eval e env) := by
  induction h with
  | nil => rfl
  | cons h1 _ ih => rw [star_of h1.ns, ih]; rfl
theorem noStar {is : List E} {es : List Expr} (h : EOks W wx X P is es) (env : Env) (pos : Pos) : (backTo pos (starEach es env)).any (·.1) = false := by
  rw [stars_of h]
  simp [backTo]
theorem noStarAll {is : List E} {es : List Expr} (h : EOks W wx X P is es) (env : Env) (pos : Pos) : (backTo pos (starEach es env)).all (fun x => !x.1) = true := by
  rw [stars_of h]
  simp [backTo]
/-- the values of a list -/
theorem EOks.pa {is : List E} {es : List Expr} (h : EOks W wx X P is es) : PA X es (tVs W wx (evs P is)) := by
  induction h with
  | nil =>
    refine pa_weak pa_nil fun σ H Q q => ?_
    obtain ⟨G, O, s, rfl, r, q⟩ := q
    exact Out.refl_ok (b := ([] : List V)) r q (by simp [RVs, Reps])
  | cons h1 hs ih =>
    refine pa_weak (pa_cons h1.pv ih (star_of h1.ns)) fun σ H Q q => ?_
    obtain ⟨G, O, s, e, r, q⟩ := q
    refine ⟨G, O, s, e, r, ?_⟩
    simp only [evs] at q
    refine Out.bind mono_RVs q fun a s1 _ x G1 O1 fr r1 rr q1 => ⟨G1, O1, s1, rfl, r1, ?_⟩
    refine Out.bind mono_RVs q1 fun b s2 _ xs G2 O2 fr2 r2 rs q2 => ?_
    refine Out.refl_ok r2 q2 ?_
    simp only [RVs, Reps]
    exact ⟨x, xs, rfl, Rep.keep fr2.keep _ _ rr, rs⟩
theorem arg_keep {σ : L2.St} {G G1 G2 : Gh} {O O1 O2 : List (Option Addr)} {s : Sta} {x : Arg} {v : V} (k : Keep G1 G2) (h : RA W σ G O G1 O1 s x v) : ARep W σ G2 x v := by
  cases x with
  | val d => exact Rep.keep k d v h
  | slot i => exact h
theorem EOks.par {is : List E} {es : List Expr} (h : EOks W wx X P is es) : PA X es (tRs W wx (evrs P is)) := by
  induction h with
  | nil =>
    refine pa_weak pa_nil fun σ H Q q => ?_
    obtain ⟨G, O, s, rfl, r, q⟩ := q
    exact Out.refl_ok (b := ([] : List V)) r q (show AReps W σ G [] [] from rfl)
  | cons h1 hs ih =>
    refine pa_weak (pa_cons h1.pr ih (star_of h1.ns)) fun σ H Q q => ?_
    obtain ⟨G, O, s, e, r, q⟩ := q
    refine ⟨G, O, s, e, r, ?_⟩
    simp only [evrs] at q
    refine Out.bind mono_RAs q fun a s1 _ x G1 O1 fr r1 rr q1 => ⟨G1, O1, s1, rfl, r1, ?_⟩
    refine Out.bind mono_RAs q1 fun b s2 _ xs G2 O2 fr2 r2 rs q2 => ?_
    exact Out.refl_ok r2 q2 ⟨x, xs, rfl, arg_keep (O := O) (O2 := O2) fr2.keep rr, rs⟩
/-! ### operations: one, two operands -/
theorem z_one {i : E} {a e : Expr} {p : Prim} {r : V → Hp → VK → Prop} (h1 : EOk W wx X P i a) (rule : ∀ {ta : TE}, PE X a ta → PE X e (fun σ H Q => ta σ H fun x H1 => r x H1 Q))
    (hr : ∀ (G : Gh) (d : D) (o : Bool) (d' : D) (x : V) (Q : VK), Dom G → RepW W G d x → prim1 p d = some (o, d') → Kont W G Q o d' → r x G.H Q) : PE X e (tE W wx (ev P (.pr p [i]))) := by
  refine pe_weak (rule h1.pr) fun σ H Q q => ?_
  obtain ⟨G, O, s, e, r, q⟩ := q
  refine ⟨G, O, s, e, r, ?_⟩
  simp only [ev, evrs, bind_assoc] at q
  refine Out.bind mono_RO q fun a s1 _ x G1 O1 fr r1 rr q1 => ?_
  have ra : AReps W σ G1 [a] [x] := ⟨x, [], rfl, rr, rfl⟩
  obtain ⟨ds, o, d, hw, hp, k⟩ := prim_end (p := prim p) r1 ra q1
  obtain ⟨d1, rfl⟩ : ∃ d1, ds = [d1] := by
    match ds, hw with
    | [d1], _ => exact ⟨d1, rfl⟩
    | [], hw => obtain ⟨⟩ := (show [x] = [] from hw)
    | _ :: _ :: _, hw => obtain ⟨_, _, e, _, _, _, e2, _⟩ := hw; cases e; cases e2
  obtain ⟨v, e, w⟩ := one_w hw
  cases e
  exact hr G1 d1 o d x Q r1.dom w hp k
theorem z_two {i j : E} {a b e : Expr} {p : Prim} {r : R2} (h1 : EOk W wx X P i a) (h2 : EOk W wx X P j b) (rule : ∀ {ta tb : TE}, PE X a ta → PE X b tb → PE X e (tOp r ta tb))
    (hr : ∀ (G : Gh) (d1 d2 : D) (o : Bool) (d' : D) (x y : V) (Q : VK), Dom G → RepW W G d1 x → RepW W G d2 y → prim2 p d1 d2 = some (o, d') → Kont W G Q o d' → r x y G.H Q) : PE X e (tE W wx (ev P (.pr p [i, j]))) := by
  refine pe_weak (rule h1.pr h2.pr) fun σ H Q q => ?_
  obtain ⟨G, O, s, e, r, q⟩ := q
  refine ⟨G, O, s, e, r, ?_⟩
  simp only [ev, evrs, bind_assoc] at q
  refine Out.bind mono_RO q fun a s1 _ x G1 O1 fr r1 rr q1 => ⟨G1, O1, s1, rfl, r1, ?_⟩
  refine Out.bind mono_RO q1 fun b s2 _ y G2 O2 fr2 r2 rr2 q2 => ?_
  have ra : AReps W σ G2 [a, b] [x, y] := ⟨x, [y], rfl, arg_keep (O := O) (O2 := O2) fr2.keep rr, y, [], rfl, rr2, rfl⟩
  obtain ⟨ds, o, d, hw, hp, k⟩ := prim_end (p := prim p) r2 ra q2
  obtain ⟨d1, d2, rfl⟩ : ∃ d1 d2, ds = [d1, d2] := by
    match ds, hw with
    | [d1, d2], _ => exact ⟨d1, d2, rfl⟩
    | [], hw => obtain ⟨⟩ := (show [x, y] = [] from hw)
    | [_], hw => obtain ⟨_, _, e, _, e2⟩ := hw; cases e; cases e2
    | _ :: _ :: _ :: _, hw => obtain ⟨_, _, e, _, _, _, e2, _, _, _, e3, _⟩ := hw; cases e; cases e2; cases e3
  obtain ⟨v, u, e, w1, w2⟩ := two_w hw
  cases e
  exact hr G2 d1 d2 o d x y Q r2.dom w1 w2 hp k
theorem evrs_len : ∀ {is : List E} {s s1 : Sta} {as : List Arg}, evrs P is s = .ok as s1 → as.length = is.length
  | [], s, s1, as, h => by cases h; rfl
  | i :: is, s, s1, as, h => by
    simp only [evrs] at h
    cases e : rdArg i (ev P i) s with
    | stuck => rw [e] at h; cases h
    | exn x s2 => rw [e] at h; cases h
    | ok a s2 =>
      rw [e] at h
      simp only [Res.bind] at h
      cases e2 : evrs P is s2 with
      | stuck => rw [e2] at h; cases h
      | exn x s3 => rw [e2] at h; cases h
      | ok b s3 =>
        rw [e2] at h
        cases h
        simp only [List.length_cons, evrs_len e2]
theorem areps_len {σ : L2.St} {G : Gh} : ∀ {as : List Arg} {vs : List V}, AReps W σ G as vs → vs.length = as.length
  | [], _, h => by rw [show _ = [] from h]; rfl
  | a :: as, vs, h => by
    obtain ⟨v, r, rfl, _, h2⟩ := h
    simp only [List.length_cons, areps_len h2]
theorem repsw_len {G : Gh} : ∀ {ds : List D} {vs : List V}, RepsW W G ds vs → vs.length = ds.length
  | [], _, h => by rw [show _ = [] from h]; rfl
  | a :: as, vs, h => by
    obtain ⟨v, r, rfl, _, h2⟩ := h
    simp only [List.length_cons, repsw_len h2]
/-- a built-in called -/
theorem z_call {is : List E} {es : List Expr} {e : Expr} {p : Prim} {f : List D → Option (Bool × D)} (h : EOks W wx X P is es) (hf : ∀ ds, ds.length = is.length → prim p ds = f ds) (rule : ∀ {t : TA}, PA X es t → PE X e (tCB (rC W f) t)) : PE X e (tE W wx (ev P (.pr p is))) := by
  refine pe_weak (rule h.par) fun σ H Q q => ?_
  obtain ⟨G, O, s, e, r, q⟩ := q
  refine ⟨G, O, s, e, r, ?_⟩
  simp only [ev] at q
  refine Out.bind mono_RO q fun as s1 he xs G1 O1 fr r1 rr q1 => ?_
  obtain ⟨ds, o, d, hw, hp, k⟩ := prim_end (p := prim p) r1 rr q1
  have hl : ds.length = is.length := by rw [← repsw_len hw, areps_len rr, evrs_len he]
  exact ⟨G1, ds, o, d, rfl, r1.dom, hw, by rw [← hf ds hl]; exact hp, k⟩

/-! ### the operations of the text -/
variable {nm : Nm} {t : Tbl} {k : Nat} {N : List Str} {sc ws : Scope}
theorem Cok.kind (C : Cok W nm t k wx N sc ws X) (x : Str) : X.env.kindOf x = sc.names.lookup x := by
  show X.env.scope.names.lookup x = _
  rw [C.eS]
theorem Cok.gl (C : Cok W nm t k wx N sc ws X) {x : Str} (h : glB sc x = true) : Gl X x := by
  unfold Gl
  rw [C.kind]
  unfold glB at h
  split at h
  · assumption
  · cases h
theorem Cok.vis (C : Cok W nm t k wx N sc ws X) {x : Str} (h : visB sc x = true) : Vis X.env.scope x := by
  unfold Vis
  rw [C.eS]
  unfold visB at h
  split at h
  · exact .inl (by assumption)
  · exact .inr (.inl (by assumption))
  · exact .inr (.inr (by assumption))
  · cases h
theorem Cok.blt1 (C : Cok W nm t k wx N sc ws X) {n : String} {f : Expr} (h : isBlt sc n f = true) (hn : n ∈ bltNames) : ∃ p, f = .Name (Str.ofString n) p ∧ Gl X (Str.ofString n) ∧ X.mg (Str.ofString n) = none := by
  cases f with
  | Name x p =>
    simp only [isBlt, Bool.and_eq_true, decide_eq_true_eq] at h
    obtain ⟨rfl, h2⟩ := h
    exact ⟨p, rfl, C.gl h2, C.blt n hn⟩
  | _ => cases h
theorem plainIx_of {b : Expr} (h : plainIxB b = true) : PlainIx b := by
  cases b <;> first
    | (intro _ _; rfl)
    | cases h
theorem units64 {j : Nat} {A : Around} (r : Room j A) : A.units + 65 < cLine := by have := r.un; omega
theorem truth_he {a : Expr} {env : Env} (h : plainT a = true) : ∀ whole, isTrue a env whole = (do let v ← whole; standAt a.pos; holding [v] (truthy v)) := by
  cases a with
  | UnaryOp op x p => cases op <;> first | (intro _; rfl) | cases h
  | BoolOp _ _ _ => cases h
  | Compare _ _ _ _ => cases h
  | IfExp _ _ _ _ => cases h
  | _ => intro _; rfl
theorem z_blt1 (C : Cok W nm t k wx N sc ws X) {p : Prim} {f : D → Option (Bool × D)} {n : String} {i : E} {g a : Expr} {pos : Pos} {v : Value} (hn : n ∈ bltNames) (h : EOks W wx X P [i] [a]) (hb : isBlt sc n g = true) (hv : bootBuiltins (Str.ofString n) = some v)
    (hf : ∀ d, prim1 p d = f d) (hc : CallR X v (rC W (p1 f))) (hk : (∃ id, v = .builtin id) ∨ ∃ T, v = .type T) (hdn : Str.ofString n ≠ ("__name__" : Str) := by decide +kernel) (hdb : (Str.ofString n == ("__debug__" : Str)) = false := by decide +kernel) :
    PE X (.Call g [a] [] pos) (tE W wx (ev P (.pr p [i]))) := by
  obtain ⟨q, rfl, hg, hm⟩ := C.blt1 hb hn
  refine z_call (f := p1 f) h (fun ds hl => ?_) fun {t} ha => ?_
  · match ds, hl with
    | [x], _ => exact hf x
  · cases h with
    | cons h1 h2 =>
      rcases hk with ⟨id, rfl⟩ | ⟨T, rfl⟩
      · exact pe_callB hc hg hm hv ha hdn hdb (star_of h1.ns) (noStar h2 _ _)
      · exact pe_callTy hc hg hm hv ha hdn hdb (star_of h1.ns) (noStar h2 _ _)
theorem z_blt2 (C : Cok W nm t k wx N sc ws X) {p : Prim} {f : D → D → Option (Bool × D)} {n : String} {i j : E} {g a b : Expr} {pos : Pos} {v : Value} (hn : n ∈ bltNames) (h : EOks W wx X P [i, j] [a, b]) (hb : isBlt sc n g = true) (hv : bootBuiltins (Str.ofString n) = some v)
    (hf : ∀ d e, prim2 p d e = f d e) (hc : CallR X v (rC W (p2 f))) (hk : (∃ id, v = .builtin id) ∨ ∃ T, v = .type T) (hdn : Str.ofString n ≠ ("__name__" : Str) := by decide +kernel) (hdb : (Str.ofString n == ("__debug__" : Str)) = false := by decide +kernel) :
    PE X (.Call g [a, b] [] pos) (tE W wx (ev P (.pr p [i, j]))) := by
  obtain ⟨q, rfl, hg, hm⟩ := C.blt1 hb hn
  refine z_call (f := p2 f) h (fun ds hl => ?_) fun {t} ha => ?_
  · match ds, hl with
    | [x, y], _ => exact hf x y
  · cases h with
    | cons h1 h2 =>
      rcases hk with ⟨id, rfl⟩ | ⟨T, rfl⟩
      · exact pe_callB hc hg hm hv ha hdn hdb (star_of h1.ns) (noStar h2 _ _)
      · exact pe_callTy hc hg hm hv ha hdn hdb (star_of h1.ns) (noStar h2 _ _)
theorem EOks.one {is : List E} {a : Expr} (h : EOks W wx X P is [a]) : ∃ i, is = [i] ∧ EOk W wx X P i a := by
  cases h with
  | cons h1 h2 => cases h2; exact ⟨_, rfl, h1⟩
theorem EOks.two {is : List E} {a b : Expr} (h : EOks W wx X P is [a, b]) : ∃ i j, is = [i, j] ∧ EOk W wx X P i a ∧ EOk W wx X P j b := by
  cases h with
  | cons h1 h2 =>
    obtain ⟨j, rfl, h3⟩ := h2.one
    exact ⟨_, _, rfl, h1, h3⟩
theorem EOks.three {is : List E} {a b c : Expr} (h : EOks W wx X P is [a, b, c]) : ∃ i j l, is = [i, j, l] ∧ EOk W wx X P i a ∧ EOk W wx X P j b ∧ EOk W wx X P l c := by
  cases h with
  | cons h1 h2 =>
    obtain ⟨j, l, rfl, h3, h4⟩ := h2.two
    exact ⟨_, _, _, rfl, h1, h3, h4⟩
theorem un_negZ : UnR X (unaryOp .USub) (fun x H Q => ∃ (G : Gh) (d : D) (o : Bool) (d' : D), G.H = H ∧ Dom G ∧ RepW W G d x ∧ negD d = some (o, d') ∧ Kont W G Q o d') := by
  intro pins s σ H x v Q I rx q
  obtain ⟨G, d, o, d', rfl, dm, h1, h2, k⟩ := q
  cases d with
  | int i =>
    cases h2
    cases repw_int h1
    exact un_neg pins s σ _ _ v Q I rx ⟨i, rfl, k.same rep_int⟩
  | _ => cases h2
def rNoneZ (W : Wo) (n : Bool) : R2 := fun x y H Q => y = .non ∧ ∃ (G : Gh) (d : D) (o : Bool) (d' : D), G.H = H ∧ Dom G ∧ RepW W G d x ∧ noneD n d = some (o, d') ∧ Kont W G Q o d'
/-- is None, is not None -/
theorem op_isNoneZ : OpR X (compareOp .Is) (rNoneZ W false) := by
  intro pins s σ H x y v u Q I rx ry q
  obtain ⟨ey, G, d, o, d', rfl, dm, h1, h2, k⟩ := q
  refine op_isN pins s σ _ x y v u Q I rx ry ⟨ey, ?_⟩
  have : decide (x = .non) = (match d with | .non => true | _ => false) := by
    cases d with
    | non => cases repw_non h1; rfl
    | bl b => cases repw_bl h1; rfl
    | int b => cases repw_int h1; rfl
    | str b => cases (repw_str h1).1; rfl
    | tup b => obtain ⟨a, vs, rfl, _⟩ := repw_tup h1; rfl
    | lst b => obtain ⟨a, vs, rfl, _⟩ := h1; rfl
    | dct b c => obtain ⟨a, vs, rfl, _⟩ := h1; rfl
    | ref b => simp only [RepW, Rep] at h1; obtain ⟨a, rfl, _⟩ := h1; rfl
    | fn b => simp only [RepW, Rep] at h1; obtain ⟨a, rfl, _⟩ := h1; rfl
    | scr b => simp only [RepW, Rep] at h1; obtain ⟨a, rfl, _⟩ := h1; rfl
  rw [this]
  cases d <;> (cases h2; exact k.same rep_bl)
theorem op_notNoneZ : OpR X (compareOp .IsNot) (rNoneZ W true) := by
  intro pins s σ H x y v u Q I rx ry q
  obtain ⟨ey, G, d, o, d', rfl, dm, h1, h2, k⟩ := q
  refine op_notN pins s σ _ x y v u Q I rx ry ⟨ey, ?_⟩
  have : (!decide (x = .non)) = (match d with | .non => false | _ => true) := by
    cases d with
    | non => cases repw_non h1; rfl
    | bl b => cases repw_bl h1; rfl
    | int b => cases repw_int h1; rfl
    | str b => cases (repw_str h1).1; rfl
    | tup b => obtain ⟨a, vs, rfl, _⟩ := repw_tup h1; rfl
    | lst b => obtain ⟨a, vs, rfl, _⟩ := h1; rfl
    | dct b c => obtain ⟨a, vs, rfl, _⟩ := h1; rfl
    | ref b => simp only [RepW, Rep] at h1; obtain ⟨a, rfl, _⟩ := h1; rfl
    | fn b => simp only [RepW, Rep] at h1; obtain ⟨a, rfl, _⟩ := h1; rfl
    | scr b => simp only [RepW, Rep] at h1; obtain ⟨a, rfl, _⟩ := h1; rfl
  rw [this]
  cases d <;> (cases h2; exact k.same rep_bl)

def RIo (G : Gh) (O : List (Option Addr)) (G' : Gh) (O' : List (Option Addr)) (_ : Sta) (x : Option Int) (b : Option Int) : Prop := x = b
theorem mono_RIo : Mono RIo := fun _ _ _ _ _ _ _ _ _ _ h => h
structure OOk (W : Wo) (wx : WX) (X : Cx) (P : Prog) (i : Option E) (e : Option Expr) : Prop where
  po : PO X e (tZ W wx (fun _ => RIo) (evo P i))
theorem po_weak {e : Option Expr} {t t' : TO} (h : PO X e t) (w : ∀ σ H Q, t' σ H Q → t σ H Q) : PO X e t' := ⟨fun pins s σ H Q I q => h.run pins s σ H Q I (w σ H Q q)⟩
theorem oOk_none : OOk W wx X P none none := ⟨po_weak po_none fun σ H Q q => by
  obtain ⟨G, O, s, rfl, r, q⟩ := q
  exact Out.refl_ok (b := (none : Option Int)) r q rfl⟩
theorem oOk_some {i : E} {e : Expr} (h : PE X e (tE W wx (ev P i))) : OOk W wx X P (some i) (some e) := ⟨po_weak (po_some (pv_of h)) fun σ H Q q => by
  obtain ⟨G, O, s, e, r, q⟩ := q
  refine ⟨G, O, s, e, r, ?_⟩
  simp only [evo] at q
  refine Out.bind mono_RIo q fun a s1 _ x G1 O1 fr r1 rr q1 => ?_
  obtain ⟨o, d⟩ := a
  cases d with
  | int j =>
    have : x = .int j := repw_int (show Rep W G1 (.int j) x from rr).w
    exact ⟨j, this, Out.refl_ok (b := some j) r1 q1 rfl⟩
  | _ => exact q1.elim⟩
theorem z_sl {i : E} {lo hi : Option E} {a : Expr} {l h : Option Expr} {pos p2 : Pos} (C : Cok W nm t k wx N sc ws X) (h1 : EOk W wx X P i a) (hl : OOk W wx X P lo l) (hh : OOk W wx X P hi h) :
    PE X (.Subscript a (.Slice l h none p2) pos) (tE W wx (ev P (.sl i lo hi))) := by
  refine pe_weak (pe_slice (sl_Z (W := W) C.eK) h1.pr hl.po hh.po) fun σ H Q q => ?_
  obtain ⟨G, O, s, e, r, q⟩ := q
  refine ⟨G, O, s, e, r, ?_⟩
  simp only [ev] at q
  refine Out.bind mono_RO q fun a s1 _ x G1 O1 fr r1 rr q1 => ⟨G1, O1, s1, rfl, r1, ?_⟩
  refine Out.bind mono_RO q1 fun l s2 _ l' G2 O2 fr2 r2 el q2 => ⟨G2, O2, s2, rfl, r2, ?_⟩
  refine Out.bind mono_RO q2 fun h s3 _ h' G3 O3 fr3 r3 eh q3 => ?_
  have el : l = l' := el
  have eh : h = h' := eh
  subst el eh
  have ra : ARep W σ G3 a x := arg_keep (O := O) (O2 := O) (s := s1) (O1 := O1) (G := G) ((fr2.trans fr3).keep) rr
  cases e : a.get s3 with
  | none => rw [e] at q3; exact q3.elim
  | some d =>
    rw [e] at q3
    cases e2 : slD d l h with
    | none => simp only [e2] at q3; exact q3.elim
    | some p =>
      simp only [e2] at q3
      exact ⟨G3, d, p.1, p.2, rfl, r3.dom, arg_w (G0 := G) (O0 := O) r3 ra e, e2, Kont.of r3 q3⟩
theorem boot_ty (t : Ty) : bootBuiltins (Str.ofString (tyName t)) = some (.type (tyName t)) := by
  cases t <;> decide +kernel
theorem ty_in (t : Ty) : tyName t ∈ bltNames := by cases t <;> decide
theorem z_isi (C : Cok W nm t k wx N sc ws X) {i : E} {a g b : Expr} {pos : Pos} {ty : Ty} (h : EOk W wx X P i a) (hg : isBlt sc "isinstance" g = true) (hb : isBlt sc (tyName ty) b = true) : PE X (.Call g [a, b] [] pos) (tE W wx (ev P (.pr (.isi ty) [i]))) := by
  obtain ⟨q, rfl, g1, g2⟩ := C.blt1 hg (by decide)
  obtain ⟨q2, rfl, b1, b2⟩ := C.blt1 hb (ty_in ty)
  have pb : PE X (.Name (Str.ofString (tyName ty)) q2) (tC (.ty (tyName ty))) := pe_bltn b1 b2 (boot_ty ty) rfl (by cases ty <;> decide +kernel) (by cases ty <;> decide +kernel)
  refine pe_weak (pe_callB (call_isiZ (W := W) C.eK ty) g1 g2 PyProof.Rows.boot_isinstance (pa_cons h.pr (pa_cons pb pa_nil) (star_of h.ns)) (by decide +kernel) (by decide +kernel) (star_of h.ns) rfl) fun σ H Q q => ?_
  obtain ⟨G, O, s, e, r, q⟩ := q
  refine ⟨G, O, s, e, r, ?_⟩
  simp only [ev, evrs, bind_assoc] at q
  refine Out.bind mono_RO q fun a s1 _ x G1 O1 fr r1 rr q1 => ?_
  have ra : AReps W σ G1 [a] [x] := ⟨x, [], rfl, rr, rfl⟩
  obtain ⟨ds, o, d, hw, hp, k⟩ := prim_end (p := prim (.isi ty)) r1 ra q1
  refine ⟨x, rfl, G1, ds, o, d, rfl, r1.dom, hw, ?_, k⟩
  match ds, hw, hp with
  | [d1], _, hp => exact hp
  | [], hw, _ => cases repsw_len hw
  | _ :: _ :: _, hw, _ => have := repsw_len hw; simp at this
/-- the operations -/
theorem z_prim (C : Cok W nm t k wx N sc ws X) {p : Prim} {e : Expr} {es : List Expr} {is : List E} (hs : shape sc p e = some es) (h : EOks W wx X P is es) : PE X e (tE W wx (ev P (.pr p is))) := by
  have u65 := units64 C.room
  cases p with
  | bin op =>
    cases e <;> first | (simp only [shape] at hs; cases hs; done) | skip
    rename_i a o b pos
    simp only [shape] at hs
    split at hs
    · rename_i eo
      cases hs
      subst eo
      obtain ⟨i, j, rfl, h1, h2⟩ := h.two
      exact z_two h1 h2 (fun {ta tb} ha hb => pe_op (op_bin C.eK o) ha hb) fun G d1 d2 o' d' x y Q dm w1 w2 hp k => ⟨G, d1, d2, o', d', rfl, dm, w1, w2, hp, k⟩
    · cases hs
  | cmp op =>
    simp only [shape] at hs
    split at hs
    · rename_i a o b pos
      split at hs
      · rename_i eo
        cases hs
        obtain ⟨rfl, eb⟩ := eo
        obtain ⟨i, j, rfl, h1, h2⟩ := h.two
        exact z_two h1 h2 (fun {ta tb} ha hb => pe_cmpR (op_cmp u65 C.eK o) ha hb eb) fun G d1 d2 o' d' x y Q dm w1 w2 hp k => ⟨G, d1, d2, o', d', rfl, dm, w1, w2, hp, k⟩
      · cases hs
    · cases hs
  | neg =>
    simp only [shape] at hs
    split at hs
    · cases hs
      obtain ⟨i, rfl, h1⟩ := h.one
      exact z_one h1 (fun {ta} ha => pe_un un_negZ ha) fun G d o' d' x Q dm w1 hp k => ⟨G, d, o', d', rfl, dm, w1, hp, k⟩
    · cases hs
  | ix =>
    simp only [shape] at hs
    split at hs
    · split at hs
      · rename_i pb
        cases hs
        obtain ⟨i, j, rfl, h1, h2⟩ := h.two
        exact z_two h1 h2 (fun {ta tb} ha hb => pe_ix (ix_Z (by omega) C.eK) ha hb (plainIx_of pb)) fun G d1 d2 o' d' x y Q dm w1 w2 hp k => ⟨G, d1, d2, o', d', rfl, dm, w1, w2, hp, k⟩
      · cases hs
    · cases hs
  | rev =>
    simp only [shape] at hs
    split at hs
    · cases hs
      obtain ⟨i, rfl, h1⟩ := h.one
      refine z_one h1 (fun {ta} ha => pe_revL ha) fun G d o' d' x Q dm w1 hp k => ?_
      cases d with
      | lst ds =>
        cases hp
        obtain ⟨a, vs, rfl, s1, r1⟩ := w1
        exact ⟨a, vs, rfl, .inl (.inl s1), fun p np => k.lst dm r1.reverse p np⟩
      | _ => cases hp
    · cases hs
  | divmodOf =>
    simp only [shape] at hs
    split at hs
    · split at hs
      · rename_i hb
        cases hs
        obtain ⟨i, j, rfl, h1, h2⟩ := h.two
        exact z_blt2 C (by decide) h hb PyProof.Rows.boot_divmod (fun _ _ => rfl) call_divmodZ (.inl ⟨_, rfl⟩)
      · cases hs
    · cases hs
  | len =>
    simp only [shape] at hs
    split at hs
    · split at hs
      · rename_i hb
        cases hs
        obtain ⟨i, rfl, h1⟩ := h.one
        exact z_blt1 C (by decide) h hb PySem.boot_len (fun _ => rfl) (call_lenZ C.eK) (.inl ⟨_, rfl⟩)
      · cases hs
    · cases hs
  | abs =>
    simp only [shape] at hs
    split at hs
    · split at hs
      · rename_i hb
        cases hs
        obtain ⟨i, rfl, h1⟩ := h.one
        exact z_blt1 C (by decide) h hb (by decide +kernel) (fun _ => rfl) call_absZ (.inl ⟨_, rfl⟩)
      · cases hs
    · cases hs
  | tupleOf =>
    simp only [shape] at hs
    split at hs
    · split at hs
      · rename_i hb
        cases hs
        obtain ⟨i, rfl, h1⟩ := h.one
        exact z_blt1 C (by decide) h hb PyProof.Rows.boot_tuple (fun _ => rfl) (call_tupleZ C.eK) (.inr ⟨_, rfl⟩)
      · cases hs
    · cases hs
  | listOf =>
    simp only [shape] at hs
    split at hs
    · split at hs
      · rename_i hb
        cases hs
        obtain ⟨i, rfl, h1⟩ := h.one
        exact z_blt1 C (by decide) h hb PyProof.Rows.boot_list (fun _ => rfl) (call_listZ C.eK) (.inr ⟨_, rfl⟩)
      · cases hs
    · cases hs
  | intOf =>
    simp only [shape] at hs
    split at hs
    · split at hs
      · rename_i hb
        cases hs
        obtain ⟨i, rfl, h1⟩ := h.one
        exact z_blt1 C (by decide) h hb PyProof.Rows.boot_int (fun _ => rfl) call_intZ (.inr ⟨_, rfl⟩)
      · cases hs
    · cases hs
  | strOf =>
    simp only [shape] at hs
    split at hs
    · split at hs
      · rename_i hb
        cases hs
        obtain ⟨i, rfl, h1⟩ := h.one
        exact z_blt1 C (by decide) h hb PyProof.Rows.boot_str (fun _ => rfl) call_strZ (.inr ⟨_, rfl⟩)
      · cases hs
    · cases hs
  | ordOf =>
    simp only [shape] at hs
    split at hs
    · split at hs
      · rename_i hb
        cases hs
        obtain ⟨i, rfl, h1⟩ := h.one
        exact z_blt1 C (by decide) h hb PyProof.Rows.boot_ord (fun _ => rfl) call_ordZ (.inl ⟨_, rfl⟩)
      · cases hs
    · cases hs
  | allOf =>
    simp only [shape] at hs
    split at hs
    · split at hs
      · rename_i hb
        cases hs
        obtain ⟨i, rfl, h1⟩ := h.one
        exact z_blt1 C (by decide) h hb (by decide +kernel) (fun _ => rfl) (call_allZ C.calm) (.inl ⟨_, rfl⟩)
      · cases hs
    · cases hs
  | anyOf =>
    simp only [shape] at hs
    split at hs
    · split at hs
      · rename_i hb
        cases hs
        obtain ⟨i, rfl, h1⟩ := h.one
        exact z_blt1 C (by decide) h hb (by decide +kernel) (fun _ => rfl) (call_anyZ C.calm) (.inl ⟨_, rfl⟩)
      · cases hs
    · cases hs
  | sumOf =>
    simp only [shape] at hs
    split at hs
    · split at hs
      · rename_i hb
        cases hs
        obtain ⟨i, rfl, h1⟩ := h.one
        exact z_blt1 C (by decide) h hb PyProof.Rows.boot_sum (fun _ => rfl) (call_sumZ C.calm) (.inl ⟨_, rfl⟩)
      · cases hs
    · cases hs
  | isi ty =>
    simp only [shape] at hs
    split at hs
    · split at hs
      · rename_i hb
        cases hs
        obtain ⟨i, rfl, h1⟩ := h.one
        exact z_isi C h1 hb.1 hb.2
      · cases hs
    · cases hs
  | isNone n =>
    simp only [shape] at hs
    split at hs
    · cases n with
      | true =>
        simp only [if_true] at hs
        split at hs
        · rename_i hb
          cases hs
          obtain ⟨i, rfl, h1⟩ := h.one
          subst hb
          exact z_one (r := fun x H Q => rNoneZ W true x .non H Q) h1 (fun {ta} ha => (pe_cmpR (tb := tC .non) (op_notNoneZ (W := W)) ha pe_non (nomark _))) fun G d o' d' x Q dm w1 hp k => ⟨rfl, G, d, o', d', rfl, dm, w1, hp, k⟩
        · cases hs
      | false =>
        simp only [Bool.false_eq_true, if_false] at hs
        split at hs
        · rename_i hb
          cases hs
          obtain ⟨i, rfl, h1⟩ := h.one
          subst hb
          exact z_one (r := fun x H Q => rNoneZ W false x .non H Q) h1 (fun {ta} ha => (pe_cmpR (tb := tC .non) (op_isNoneZ (W := W)) ha pe_non (nomark _))) fun G d o' d' x Q dm w1 hp k => ⟨rfl, G, d, o', d', rfl, dm, w1, hp, k⟩
        · cases hs
    · cases hs
  | sortedOf =>
    simp only [shape] at hs
    split at hs
    · split at hs
      · rename_i hb
        cases hs
        obtain ⟨i, rfl, h1⟩ := h.one
        exact z_blt1 C (by decide) h hb PyProof.Rows.boot_sorted (fun _ => rfl) (call_sortedZ C.eK C.calm) (.inl ⟨_, rfl⟩)
      · cases hs
    · cases hs
end
end Z

set_option Elab.async false
set_option linter.all false
set_option maxRecDepth 100000
set_option maxHeartbeats 2000000
set_option autoImplicit false
/-! ZSnd2: names, displays, calls. -/
namespace Z
open PySem PySem.Spec PyProof.Rows L2
section
variable {W : Wo} {G G' : Gh} {s : Sta} {σ : L2.St} {O : List (Option Addr)}
theorem own_in (r : StRep W G s σ O) {i : Nat} {c : Cell} (h : s.σ[i]? = some (.own c)) : ∃ a, O[i]? = some (some a) ∧ σ[i]? = some (some (.ref a)) ∧ CRep W G c a ∧ ¬ G.F a ∧ a ∈ ow O ∧ a ∉ G.M := by
  obtain ⟨v, o, h1, h2, h3⟩ := r.slots i _ h
  obtain ⟨a, rfl, rfl, h4, h5⟩ := h3
  have hm : a ∈ ow O := List.mem_filterMap.mpr ⟨some a, List.mem_of_getElem? h2, rfl⟩
  exact ⟨a, h2, h1, h4, h5, hm, fun z => (List.nodup_append.mp r.nd).2.2 a hm a z rfl⟩
theorem ow_in (r : StRep W G s σ O) {a : Addr} (h : a ∈ ow O) : ∃ (i : Nat) (c : Cell), s.σ[i]? = some (.own c) ∧ O[i]? = some (some a) ∧ CRep W G c a ∧ ¬ G.F a := by
  obtain ⟨x, hx, ex⟩ := List.mem_filterMap.mp h
  obtain ⟨i, hi, hix⟩ := List.mem_iff_getElem.mp hx
  have ex : x = some a := ex
  subst ex
  have hi' : i < s.σ.length := by rw [← r.lenO]; exact hi
  obtain ⟨v', o', e1, e2, e3⟩ := r.slots i _ (List.getElem?_eq_getElem hi')
  rw [List.getElem?_eq_getElem hi, hix] at e2
  cases e2
  cases q : s.σ[i] with
  | no => rw [q] at e3; cases e3
  | sh y => rw [q] at e3; cases e3.1
  | own c2 =>
    rw [q] at e3
    obtain ⟨b, f1, f2, f3, f4⟩ := e3
    cases f1
    exact ⟨i, c2, by rw [List.getElem?_eq_getElem hi', q], by rw [List.getElem?_eq_getElem hi, hix], f3, f4⟩
theorem mem_M (r : StRep W G s σ O) {a : Addr} (h : a ∈ G.M) : ∃ (n : Nat) (c : Cell), s.S[n]? = some c ∧ G.M[n]? = some a ∧ CRep W G c a ∧ ¬ G.F a := by
  obtain ⟨n, hn, hna⟩ := List.mem_iff_getElem.mp h
  have hn' : n < s.S.length := by rw [← r.lenM]; exact hn
  obtain ⟨b, f1, f2, f3⟩ := r.cells n _ (List.getElem?_eq_getElem hn')
  rw [List.getElem?_eq_getElem hn, hna] at f1
  cases f1
  exact ⟨n, _, List.getElem?_eq_getElem hn', by rw [List.getElem?_eq_getElem hn, hna], f2, f3⟩
theorem StRep.cs (r : StRep W G s σ O) : CsRep W G s.S := ⟨r.lenM, r.cells, (List.nodup_append.mp r.nd).2.1, r.dom⟩
/-- a name's own object is shown -/
theorem ow_set {O : List (Option Addr)} {i : Nat} {a b : Addr} (h : b ∈ ow (O.set i none)) : b ∈ ow O := by
  obtain ⟨x, hx, ex⟩ := List.mem_filterMap.mp h
  rcases List.mem_or_eq_of_mem_set hx with hx | hx
  · exact List.mem_filterMap.mpr ⟨x, hx, ex⟩
  · subst hx; cases ex
theorem ow_nodup_set : ∀ {O : List (Option Addr)} (i : Nat), (ow O).Nodup → (ow (O.set i none)).Nodup
  | [], _, h => h
  | o :: O, 0, h => by
    cases o with
    | none => exact h
    | some a =>
      have h : (a :: ow O).Nodup := h
      exact (List.nodup_cons.mp h).2
  | o :: O, i + 1, h => by
    cases o with
    | none => exact ow_nodup_set (O := O) i h
    | some a =>
      have h : (a :: ow O).Nodup := h
      obtain ⟨h1, h2⟩ := List.nodup_cons.mp h
      show (a :: ow (O.set i none)).Nodup
      exact List.nodup_cons.mpr ⟨fun z => h1 (ow_set (a := a) z), ow_nodup_set i h2⟩
theorem ow_uniq : ∀ {O : List (Option Addr)} {i j : Nat} {a : Addr}, (ow O).Nodup → O[i]? = some (some a) → O[j]? = some (some a) → i = j
  | [], _, _, _, _, h, _ => by simp at h
  | o :: O, 0, 0, a, _, _, _ => rfl
  | o :: O, 0, j + 1, a, hn, h1, h2 => by
    simp at h1 h2
    subst h1
    have hn : (a :: ow O).Nodup := hn
    exact absurd (List.mem_filterMap (f := id).mpr ⟨some a, List.mem_of_getElem? h2, rfl⟩ : a ∈ ow O) (List.nodup_cons.mp hn).1
  | o :: O, i + 1, 0, a, hn, h1, h2 => by
    simp at h1 h2
    subst h2
    have hn : (a :: ow O).Nodup := hn
    exact absurd (List.mem_filterMap (f := id).mpr ⟨some a, List.mem_of_getElem? h1, rfl⟩ : a ∈ ow O) (List.nodup_cons.mp hn).1
  | o :: O, i + 1, j + 1, a, hn, h1, h2 => by
    have hn' : (ow O).Nodup := by
      cases o with
      | none => exact hn
      | some b => exact (List.nodup_cons.mp (show (b :: ow O).Nodup from hn)).2
    exact congrArg (· + 1) (ow_uniq hn' (by simpa using h1) (by simpa using h2))
theorem view_rep {c : Cell} {a : Addr} {d : D} (h : CRep W G c a) (f : G.F a) (e : c.view = some d) : Rep W G d (.ref a) := by
  cases c with
  | L ds =>
    cases e
    obtain ⟨vs, q, r⟩ := h
    simp only [Rep]
    exact ⟨a, vs, rfl, f, q, r⟩
  | M ks us =>
    cases e
    obtain ⟨kvs, q, q1, r⟩ := h
    simp only [Rep]
    exact ⟨a, kvs, rfl, f, q, q1, r⟩
  | I c fs => cases e
theorem show_slot (r : StRep W G s σ O) {i : Nat} {c : Cell} {d : D} (h : s.σ[i]? = some (.own c)) (e : c.view = some d) :
    ∃ (G2 : Gh) (a : Addr), G2.H = G.H ∧ σ[i]? = some (some (.ref a)) ∧ Frm G (ow O) G2 (ow (O.set i none)) ∧ StRep W G2 { s with σ := s.σ.set i (.sh d) } σ (O.set i none) ∧ Rep W G2 d (.ref a) := by
  obtain ⟨a, h1, h2, h3, h4, h5, h6⟩ := own_in r h
  let G2 : Gh := ⟨G.H, fun b => G.F b ∨ b = a, G.M⟩
  have k : Keep G G2 := ⟨fun _ _ e _ => e, fun b hb => ⟨.inl hb, rfl⟩, fun _ _ e => e⟩
  obtain ⟨oa, ha, _⟩ := h3.there
  have rp : Rep W G2 d (.ref a) := view_rep (h3.keep k rfl) (.inr rfl) e
  have nO : (ow O).Nodup := (List.nodup_append.mp r.nd).1
  have hi : i < s.σ.length := (List.getElem?_eq_some_iff.mp h).1
  refine ⟨G2, a, rfl, h2, ⟨k, fun _ _ e _ _ => e, fun b hb => ?_, fun b hb => .inl (ow_set (a := a) hb), fun b hb => .inl hb, fun b x e => ⟨x, e⟩⟩, ⟨?_, ?_, fun j x hx => ?_, r.lenM, fun n c' hc => ?_, ?_, fun b hb => ?_⟩, rp⟩
  · rcases hb with hb | rfl
    · exact .inl hb
    · exact .inr (.inl h5)
  · simpa using r.len
  · simpa using r.lenO
  · by_cases hj : j = i
    · subst hj
      have hx : (s.σ.set j (.sh d))[j]? = some x := hx
      rw [List.getElem?_set_self hi] at hx
      cases hx
      refine ⟨some (.ref a), none, h2, ?_, rfl, .ref a, rfl, rp⟩
      rw [List.getElem?_set_self (by rw [r.lenO]; exact hi)]
    · have hx : (s.σ.set i (.sh d))[j]? = some x := hx
      rw [List.getElem?_set_ne (Ne.symm hj)] at hx
      obtain ⟨v, o, e1, e2, e3⟩ := r.slots j x hx
      refine ⟨v, o, e1, by rw [List.getElem?_set_ne (Ne.symm hj)]; exact e2, ?_⟩
      cases x with
      | no => exact e3
      | sh d' => obtain ⟨q, y, q1, q2⟩ := e3; exact ⟨q, y, q1, Rep.keep k d' y q2⟩
      | own c' =>
        obtain ⟨b, q1, q2, q3, q4⟩ := e3
        refine ⟨b, q1, q2, q3.keep k rfl, fun z => ?_⟩
        rcases z with z | z
        · exact q4 z
        · subst z
          rw [q1] at e2
          exact hj (ow_uniq nO e2 h1)
  · obtain ⟨b, q1, q2, q3⟩ := r.cells n c' hc
    refine ⟨b, q1, q2.keep k rfl, fun z => ?_⟩
    rcases z with z | z
    · exact q3 z
    · subst z
      exact h6 (List.mem_of_getElem? q1)
  · obtain ⟨n1, n2, n3⟩ := List.nodup_append.mp r.nd
    exact List.nodup_append.mpr ⟨ow_nodup_set i n1, n2, fun x hx y hy => n3 x (ow_set (a := a) hx) y hy⟩
  · rcases hb with hb | rfl
    · exact r.dom b hb
    · exact ⟨oa, ha⟩
theorem ro_val {G G' : Gh} {O O' : List (Option Addr)} {s : Sta} {d : D} {v : V} (h : Rep W G' d v) : RO W G O G' O' s (false, d) v := by
  unfold RO; rw [if_neg Bool.false_ne_true]; exact h
/-- behind a call -/
theorem StRep.call {S' : List Cell} (r : StRep W G s σ O) (f : FrF G G') (c : CsRep W G' S') : StRep W G' ⟨s.σ, S'⟩ σ O ∧ Frm G (ow O) G' (ow O) := by
  have hM : ∀ a, a ∈ ow O → a ∉ G.M ∧ ∃ o, G.H a = some o := fun a ha => by
    obtain ⟨i, c, h1, h2, h3, h4⟩ := ow_in r ha
    obtain ⟨a', q1, _, _, _, _, q6⟩ := own_in r h1
    rw [h2] at q1
    cases q1
    obtain ⟨o, ho, _⟩ := h3.there
    exact ⟨q6, o, ho⟩
  have nF : ∀ a, a ∈ ow O → ¬ G.F a → ¬ G'.F a := fun a ha n z => by
    rcases f.fz a z with z | z | z
    · exact n z
    · cases z
    · obtain ⟨_, o, ho⟩ := hM a ha
      rw [ho] at z; cases z
  refine ⟨⟨r.len, r.lenO, fun i x hx => ?_, c.1, c.2.1, ?_, c.2.2.2⟩, f.keep, fun a x e h1 h2 => f.rest a x e (by simp) h2, fun a h => ?_, fun a h => .inl h, fun a h => ?_, f.dm⟩
  · obtain ⟨v, o, e1, e2, e3⟩ := r.slots i x hx
    refine ⟨v, o, e1, e2, ?_⟩
    cases x with
    | no => exact e3
    | sh d => obtain ⟨q, y, q1, q2⟩ := e3; exact ⟨q, y, q1, Rep.keep f.keep d y q2⟩
    | own c' =>
      obtain ⟨b, q1, q2, q3, q4⟩ := e3
      have hb : b ∈ ow O := List.mem_filterMap.mpr ⟨some b, by rw [← q1]; exact List.mem_of_getElem? e2, rfl⟩
      obtain ⟨m1, ob, m2⟩ := hM b hb
      exact ⟨b, q1, q2, q3.keep f.keep ((f.rest b ob m2 (by simp) m1).trans m2.symm), nF b hb q4⟩
  · refine List.nodup_append.mpr ⟨(List.nodup_append.mp r.nd).1, c.2.2.1, fun x hx y hy e => ?_⟩
    subst e
    obtain ⟨m1, ob, m2⟩ := hM x hx
    rcases f.mm x hy with z | z | z
    · exact m1 z
    · cases z
    · rw [m2] at z; cases z
  · rcases f.fz a h with z | z | z
    · exact .inl z
    · cases z
    · exact .inr (.inr z)
  · rcases f.mm a h with z | z | z
    · exact .inl z
    · cases z
    · exact .inr (.inr z)
theorem RO.call {x : Bool × D} {v : V} {S' : List Cell} {s' : Sta} (r : StRep W G s σ O) (h : RO W G [] G' [] ⟨[], S'⟩ x v) : RO W G O G' O s' x v := by
  unfold RO at h ⊢
  split
  · rename_i e
    rw [if_pos e] at h
    obtain ⟨c, a, h1, h2, h3, h4, h5, h6, h7⟩ := h
    have h7 : G.H a = none := h7.elim (fun z => by cases z) id
    refine ⟨c, a, h1, h2, h3, h4, fun z => ?_, h6, .inr h7⟩
    obtain ⟨i, c, _, _, q, _⟩ := ow_in r z
    obtain ⟨o, ho, _⟩ := q.there
    rw [h7] at ho; cases ho
  · rename_i e
    rw [if_neg e] at h
    exact h
end
section
variable {W : Wo} {wx : WX} {X : Cx} {nm : Nm} {t : Tbl} {k : Nat} {N : List Str} {sc ws : Scope}
theorem isVar_of {i : Nat} {e : Expr} (C : Cok W nm t k wx N sc ws X) (h : isVar N sc i e = true) : ∃ x p, e = .Name x p ∧ X.N[i]? = some x ∧ Vis X.env.scope x ∧ (x == ("__debug__" : Str)) = false ∧ (x == ("__classdict__" : Str)) = false := by
  cases e with
  | Name x p =>
    simp only [isVar, Bool.and_eq_true, decide_eq_true_eq, okName, Bool.not_eq_true'] at h
    exact ⟨x, p, rfl, by rw [C.eN]; exact h.1.1, C.vis h.1.2, h.2.1.1, h.2.1.2⟩
  | _ => cases h
theorem pe_varZ {i : Nat} {e : Expr} (C : Cok W nm t k wx N sc ws X) (h : isVar N sc i e = true) : PE X e (tVar i) := by
  obtain ⟨x, p, rfl, h1, h2, h3, h4⟩ := isVar_of C h
  exact pe_var h1 h2 h3 h4
theorem z_var {i : Nat} {e : Expr} {P : Prog} (C : Cok W nm t k wx N sc ws X) (h : isVar N sc i e = true) : PE X e (tE W wx (ev P (.v i))) := by
  refine pe_weak (pe_varZ C h) fun σ H Q q => ?_
  obtain ⟨G, O, s, rfl, r, q⟩ := q
  simp only [ev, readV] at q
  cases e : s.σ[i]? with
  | none => rw [e] at q; exact q.elim
  | some x =>
    rw [e] at q
    obtain ⟨v, o, h1, h2, h3⟩ := r.slots i x e
    cases x with
    | no => exact q.elim
    | sh d =>
      obtain ⟨_, y, rfl, ry⟩ := h3
      exact ⟨y, h1, Out.refl_ok (b := y) r q (ro_val (ry))⟩
    | own c =>
      simp only at q
      cases e2 : c.view with
      | none => rw [e2] at q; exact q.elim
      | some d =>
        rw [e2] at q
        obtain ⟨G2, a, e3, h4, fr, r2, rp⟩ := show_slot r e e2
        refine ⟨.ref a, h4, ?_⟩
        rw [← e3]
        exact q (.ref a) G2 _ fr r2 (ro_val (rp))
theorem z_lit {d : D} {c : Const} {j : Nat} {pos : Pos} {P : Prog} (h : litB d c = true) : PE X (.Constant c j pos) (tE W wx (ev P (.lit d))) := by
  have fin : ∀ {v : V}, (∀ G, Rep W G d v) → PE X (.Constant c j pos) (tC v) → PE X (.Constant c j pos) (tE W wx (ev P (.lit d))) := fun {v} rep p => pe_weak p fun σ H Q q => by
    obtain ⟨G, O, s, rfl, r, q⟩ := q
    exact Out.refl_ok (b := v) r q (ro_val (rep G))
  cases d with
  | non => cases c <;> first | (cases h; done) | exact fin (fun _ => rep_non) pe_non
  | bl b =>
    cases c <;> first | (cases h; done) | skip
    rename_i b'
    have : b = b' := by simpa [litB] using h
    subst this
    exact fin (fun _ => rep_bl) pe_bl
  | int b =>
    cases c <;> first | (cases h; done) | skip
    rename_i b'
    have : b = b' := by simpa [litB] using h
    subst this
    exact fin (fun _ => rep_int) pe_int
  | str x =>
    cases c <;> first | (cases h; done) | skip
    rename_i z
    simp only [litB, Bool.and_eq_true, beq_iff_eq, decide_eq_true_eq, List.all_eq_true] at h
    exact fin (fun _ => rep_strE ⟨h.1.2, h.2⟩ h.1.1) pe_str
  | _ => cases h
theorem isGl_of {ns : List Str} {i : Nat} {e : Expr} (C : Cok W nm t k wx N sc ws X) (h : isGl ns sc i e = true) : ∃ x p, e = .Name x p ∧ ns[i]? = some x ∧ Gl X x ∧ (x == ("__debug__" : Str)) = false := by
  cases e with
  | Name x p =>
    simp only [isGl, Bool.and_eq_true, decide_eq_true_eq, okName, Bool.not_eq_true'] at h
    exact ⟨x, p, rfl, h.1.1, C.gl h.1.2, h.2.1.1⟩
  | _ => cases h
theorem z_glob {i : Nat} {e : Expr} (C : Cok W nm t k wx N sc ws X) (h : isGl nm.gl sc i e = true) : PE X e (tE W wx (ev (prog t k) (.g i))) := by
  obtain ⟨x, p, rfl, h1, h2, h3⟩ := isGl_of C h
  cases e : t.glob i with
  | none =>
    refine ⟨fun pins s σ H Q I q => ?_⟩
    obtain ⟨G, O, s, rfl, r, q⟩ := q
    simp only [ev, prog, e] at q
    exact q.elim
  | some d =>
    obtain ⟨y, u, v, g1, g2, g3, g4⟩ := C.gls i d e
    rw [h1] at g1; cases g1
    refine pe_weak (pe_glob h2 g2 g3 h3) fun σ H Q q => ?_
    obtain ⟨G, O, s, rfl, r, q⟩ := q
    simp only [ev, prog, e] at q
    exact Out.refl_ok (b := v) r q (ro_val (g4 G))
theorem z_fn {i : Nat} {e : Expr} (C : Cok W nm t k wx N sc ws X) (h : isGl nm.fn sc i e = true) (hi : i < t.fns.length) : PE X e (tE W wx (ev (prog t k) (.fn i))) := by
  obtain ⟨x, p, rfl, h1, h2, h3⟩ := isGl_of C h
  obtain ⟨y, a, fd, ps, g1, g2, g3, _⟩ := (C.fns i _ (List.getElem?_eq_getElem hi)).ex
  rw [h1] at g1; cases g1
  refine pe_weak (pe_glob (v := .ref a) h2 g3 rfl h3) fun σ H Q q => ?_
  obtain ⟨G, O, s, rfl, r, q⟩ := q
  simp only [ev] at q
  exact Out.refl_ok (b := V.ref a) r q (ro_val (by simp only [Rep]; exact ⟨a, rfl, g2⟩))
/-- tuples and lists as they are written -/
theorem z_tup {is : List E} {es : List Expr} {x1 : Nat} {pos : Pos} {P : Prog} (h : EOks W wx X P is es) : PE X (.Tuple es x1 pos) (tE W wx (ev P (.tup is))) := by
  refine pe_weak (pe_tup h.pa) fun σ H Q q => ?_
  obtain ⟨G, O, s, e, r, q⟩ := q
  refine ⟨G, O, s, e, r, ?_⟩
  simp only [ev] at q
  refine Out.bind mono_RO q fun ds s1 _ vs G1 O1 fr r1 rr q1 => ?_
  split at q1
  · rename_i hl
    have k := Kont.of r1 q1
    exact ⟨by rw [Reps.len rr, ← lim_line]; exact hl, fun p np => k.tup r1.dom rr p np⟩
  · exact q1.elim
theorem z_lst {is : List E} {es : List Expr} {pos : Pos} {P : Prog} (h : EOks W wx X P is es) : PE X (.List es pos) (tE W wx (ev P (.lst is))) := by
  refine pe_weak (pe_lst h.pa) fun σ H Q q => ?_
  obtain ⟨G, O, s, e, r, q⟩ := q
  refine ⟨G, O, s, e, r, ?_⟩
  simp only [ev] at q
  refine Out.bind mono_RO q fun ds s1 _ vs G1 O1 fr r1 rr q1 => ?_
  split at q1
  · rename_i hl
    have k := Kont.of r1 q1
    exact ⟨by rw [Reps.len rr, ← lim_line]; exact hl, fun p np => k.lst r1.dom rr p np⟩
  · exact q1.elim
/-- what a call's answer means for who called -/
theorem sp_of_out {G : Gh} {O : List (Option Addr)} {s : Sta} {σ : L2.St} {ds : List D} {vs : List V} {Q : VK} {f : List D → List Cell → FRes} (r : StRep W G s σ O) (rd : Reps W G ds vs) (h : Out W wx G O σ (RO W) Q (fromF s.σ (f ds s.S))) : spZ W f vs G.H Q (WE wx σ) := by
  refine ⟨G, ds, s.S, rfl, r.cs, rd, ?_⟩
  cases e : f ds s.S with
  | stuck => rw [e] at h; exact h
  | ok o d S' =>
    rw [e] at h
    intro v G' fr cs ro
    obtain ⟨r2, f2⟩ := r.call fr cs
    exact h v G' O f2 r2 (ro.call r)
  | exn x S' =>
    rw [e] at h
    intro G' cls dx fr cs xr
    obtain ⟨r2, f2⟩ := r.call fr cs
    exact h G' O f2 r2 cls dx xr
theorem z_fcall {f : Nat} {is : List E} {es : List Expr} {g : Expr} {pos : Pos} (C : Cok W nm t k wx N sc ws X) (hf : f < t.fns.length) (hg : isGl nm.fn sc f g = true) (h : EOks W wx X (prog t k) is es) : PE X (.Call g es [] pos) (tE W wx (ev (prog t k) (.call f is))) := by
  obtain ⟨x, p, rfl, h1, h2, h3⟩ := isGl_of C hg
  obtain ⟨y, a, fd, ps, g1, g2, g3, g4, g5, g6, g7⟩ := (C.fns f _ (List.getElem?_eq_getElem hf)).ex
  rw [h1] at g1; cases g1
  have hr : Room (2 * k) X.A := C.room.mono (by omega)
  cases h with
  | nil =>
    refine ⟨fun pins s σ H Q I q => ?_⟩
    obtain ⟨G, O, z, rfl, r, q⟩ := q
    refine wpAny_Call_Name_kw (ld_glob I h2 g3 ?_ h3)
    refine PySem.W.callWith_K0 I.kIn g4 (run_fnS (us := []) g7 hr g5 (passAt C.tk σ) I .nil ?_)
    have q : Out W wx G O σ (RO W) Q (fromF z.σ (Phi t k f [] z.S)) := q
    exact sp_of_out r (show Reps W G [] [] by simp [Reps]) q
  | cons h1' h2' =>
    rename_i i e is' es'
    have hh : EOks W wx X (prog t k) (i :: is') (e :: es') := .cons h1' h2'
    refine pe_weak (pe_callS (E := WE wx) g7 hr h2 g3 g4 g5 (fun σ => passAt C.tk σ) hh.pa h3 (star_of h1'.ns) (noStar h2' _ _)) fun σ H Q q => ?_
    obtain ⟨G, O, s, e, r, q⟩ := q
    refine ⟨G, O, s, e, r, ?_⟩
    simp only [ev] at q
    refine Out.bind mono_RO q fun ds s1 _ vs G1 O1 fr r1 rr q1 => ?_
    exact sp_of_out (f := Phi t k f) r1 rr q1
end
end Z

set_option Elab.async false
set_option linter.all false
set_option maxRecDepth 100000
namespace Z
open PySem PySem.AutoSeq1
set_option maxHeartbeats 4000000
theorem list_extend_tuple_any (l : Addr) (items : Array Value) (n : Nat) (b : Addr) (items2 : Array Value) (n2 : Nat) (dd : Option Addr) (sl : Array (Option Value)) (hs0 : ¬(!items.isEmpty && Builtin.List.listTooLong (items.size + items2.size)) = true) (hs1 : items.size ≤ sizeLine) (hs2 : items.size + items2.size ≤ sizeLine + 1) :
    Meets (Builtin.«list.extend» ⟨[.ref l, .ref b], []⟩) (fun _ R s => s.heap.get? l = some { cls := .type "list", dict := none, data := .seq items n, slots := #[] } ∧ s.heap.get? b = some { cls := .type "tuple", dict := dd, data := .seq items2 n2, slots := sl } ∧ R (.ok (.ret Value.none)) { s with heap := s.heap.update l (Obj.mapSeq fun x => x ++ items2), toks := s.toks }) :=
  .of_wp fun prog w A R s h => by
    obtain ⟨hp, g, d, tk, os⟩ := s; obtain ⟨hl, hb, h⟩ := h; have f1 := idx_int; have f2 := sub_tuple_tuple; have f3 := sub_list_list; have f4 := sub_tuple_list; have f5 := sub_list_tuple;
    have hz' : (items ++ items2).size ≤ sizeLine + 1 := by rw [Array.size_append]; exact hs2
    wp_walk using (wpAny_updateSeq hl rfl (hz := hs1) (_hz' := hz')), wpAny_loadPart' hl, wpAny_loadPart' hb; exact ⟨_, rfl, h⟩
end Z

set_option Elab.async false
set_option linter.all false
set_option maxRecDepth 100000
set_option maxHeartbeats 2000000
set_option autoImplicit false
/-! ZSnd3: methods, objects that change. -/
namespace Z
open PySem PySem.Spec PyProof.Rows L2
section
variable {W : Wo} {G : Gh} {s : Sta} {σ : L2.St} {O : List (Option Addr)}
/-! ### places -/
def PlRep (σ : L2.St) (G : Gh) (p : Place) (a : Addr) : Prop := match p with
  | .slot i => σ[i]? = some (some (.ref a))
  | .cell n => G.M[n]? = some a
theorem place_at (r : StRep W G s σ O) {p : Place} {c : Cell} {a : Addr} (h : p.get s = some c) (q : PlRep σ G p a) : CRep W G c a ∧ ¬ G.F a ∧ (a ∈ ow O ∨ a ∈ G.M) := by
  cases p with
  | slot i =>
    simp only [Place.get] at h
    split at h
    · rename_i c' e
      cases h
      obtain ⟨b, h1, h2, h3, h4, h5, _⟩ := own_in r e
      have q : σ[i]? = some (some (.ref a)) := q
      rw [h2] at q
      cases q
      exact ⟨h3, h4, .inl h5⟩
    · cases h
  | cell n =>
    obtain ⟨b, h1, h2, h3⟩ := r.cells n c h
    have q : G.M[n]? = some a := q
    rw [h1] at q
    cases q
    exact ⟨h2, h3, .inr (List.mem_of_getElem? h1)⟩
/-- an object is changed -/
theorem place_set (r : StRep W G s σ O) {p : Place} {c c' : Cell} {a : Addr} {o' : HO} (h : p.get s = some c) (q : PlRep σ G p a) (new : Keep G ⟨upd G.H a o', G.F, G.M⟩ → CRep W ⟨upd G.H a o', G.F, G.M⟩ c' a) :
    StRep W ⟨upd G.H a o', G.F, G.M⟩ (p.set s c') σ O ∧ Frm G (ow O) ⟨upd G.H a o', G.F, G.M⟩ (ow O) := by
  obtain ⟨h1, h2, h3⟩ := place_at r h q
  obtain ⟨oa, ha, him⟩ := h1.there
  have k : Keep G ⟨upd G.H a o', G.F, G.M⟩ := by
    refine ⟨fun b x e i => ?_, fun b f => ⟨f, ?_⟩, fun _ _ e => e⟩
    · show upd G.H a o' b = some x
      rw [upd_ne]
      · exact e
      · rintro rfl
        rw [ha] at e; cases e
        rw [him] at i; cases i
    · show upd G.H a o' b = G.H b
      rw [upd_ne]
      rintro rfl
      exact h2 f
  have other : ∀ {x : Cell} {b : Addr}, b ≠ a → CRep W G x b → CRep W ⟨upd G.H a o', G.F, G.M⟩ x b := fun {x b} ne z => z.keep k (upd_ne ne)
  have fr : Frm G (ow O) ⟨upd G.H a o', G.F, G.M⟩ (ow O) := by
    refine ⟨k, fun b x e n1 n2 => ?_, fun b f => .inl f, fun b z => .inl z, fun b z => .inl z, fun b x e => ?_⟩
    · show upd G.H a o' b = some x
      rw [upd_ne]
      · exact e
      · rintro rfl
        exact h3.elim n1 n2
    · by_cases hb : b = a
      · subst hb; exact ⟨o', upd_same⟩
      · exact ⟨x, (upd_ne hb).trans e⟩
  have dom : Dom ⟨upd G.H a o', G.F, G.M⟩ := fun b f => by
    obtain ⟨x, e⟩ := r.dom b f
    exact fr.dm b x e
  have nO : (ow O).Nodup := (List.nodup_append.mp r.nd).1
  have nM : G.M.Nodup := (List.nodup_append.mp r.nd).2.1
  have dj := (List.nodup_append.mp r.nd).2.2
  refine ⟨?_, fr⟩
  cases p with
  | slot i =>
    simp only [Place.get] at h
    split at h
    · rename_i c0 e
      cases h
      obtain ⟨b, g1, g2, g3, g4, g5, g6⟩ := own_in r e
      have q : σ[i]? = some (some (.ref a)) := q
      rw [g2] at q
      cases q
      have hi : i < s.σ.length := (List.getElem?_eq_some_iff.mp e).1
      refine ⟨?_, ?_, fun j x hx => ?_, r.lenM, fun n x hx => ?_, r.nd, dom⟩
      · show σ.length = (s.σ.set i (.own c')).length
        simpa using r.len
      · show O.length = (s.σ.set i (.own c')).length
        simpa using r.lenO
      · have hx : (s.σ.set i (.own c'))[j]? = some x := hx
        by_cases hj : j = i
        · subst hj
          rw [List.getElem?_set_self hi] at hx
          cases hx
          exact ⟨_, _, g2, g1, a, rfl, rfl, new k, g4⟩
        · rw [List.getElem?_set_ne (Ne.symm hj)] at hx
          obtain ⟨v, o, e1, e2, e3⟩ := r.slots j x hx
          refine ⟨v, o, e1, e2, ?_⟩
          cases x with
          | no => exact e3
          | sh d => obtain ⟨z, y, z1, z2⟩ := e3; exact ⟨z, y, z1, Rep.keep k d y z2⟩
          | own c2 =>
            obtain ⟨b, z1, z2, z3, z4⟩ := e3
            refine ⟨b, z1, z2, other (fun z => ?_) z3, z4⟩
            subst z
            rw [z1] at e2
            exact hj (ow_uniq nO e2 g1)
      · obtain ⟨b, z1, z2, z3⟩ := r.cells n x hx
        refine ⟨b, z1, other (fun z => ?_) z2, z3⟩
        subst z
        exact g6 (List.mem_of_getElem? z1)
    · cases h
  | cell n =>
    have h : s.S[n]? = some c := h
    have q : G.M[n]? = some a := q
    have hn : n < s.S.length := (List.getElem?_eq_some_iff.mp h).1
    refine ⟨r.len, r.lenO, fun j x hx => ?_, ?_, fun m x hx => ?_, r.nd, dom⟩
    · obtain ⟨v, o, e1, e2, e3⟩ := r.slots j x hx
      refine ⟨v, o, e1, e2, ?_⟩
      cases x with
      | no => exact e3
      | sh d => obtain ⟨z, y, z1, z2⟩ := e3; exact ⟨z, y, z1, Rep.keep k d y z2⟩
      | own c2 =>
        obtain ⟨b, z1, z2, z3, z4⟩ := e3
        refine ⟨b, z1, z2, other (fun z => ?_) z3, z4⟩
        subst z
        have hb : b ∈ ow O := List.mem_filterMap.mpr ⟨some b, by rw [← z1]; exact List.mem_of_getElem? e2, rfl⟩
        exact dj b hb b (List.mem_of_getElem? q) rfl
    · show G.M.length = (s.S.set n c').length
      simpa using r.lenM
    · have hx : (s.S.set n c')[m]? = some x := hx
      by_cases hm : m = n
      · subst hm
        rw [List.getElem?_set_self hn] at hx
        cases hx
        exact ⟨a, q, new k, h2⟩
      · rw [List.getElem?_set_ne (Ne.symm hm)] at hx
        obtain ⟨b, z1, z2, z3⟩ := r.cells m x hx
        refine ⟨b, z1, other (fun z => ?_) z2, z3⟩
        subst z
        obtain ⟨l1, e1⟩ := List.getElem?_eq_some_iff.mp z1
        obtain ⟨l2, e2⟩ := List.getElem?_eq_some_iff.mp q
        exact hm ((List.getElem_inj nM).mp (e1.trans e2.symm))
end
section
variable {W : Wo} {wx : WX} {X : Cx} {P : Prog} {nm : Nm} {t : Tbl} {k : Nat} {N : List Str} {sc ws : Scope}
def RP (σ : L2.St) (G : Gh) (O : List (Option Addr)) (G' : Gh) (O' : List (Option Addr)) (_ : Sta) (p : Place) (v : V) : Prop := ∃ a, v = .ref a ∧ PlRep σ G' p a
theorem mono_RP {σ : L2.St} : Mono (RP σ) := fun _ _ _ _ _ _ _ _ _ _ h => h
/-- a place's reading -/
theorem EOk.pp {i : E} {e : Expr} (h : EOk W wx X P i e) : PE X e (tZ W wx (fun σ => RP σ) (rdPlace i (ev P i))) := by
  have gen : (∀ s, rdPlace i (ev P i) s = (ev P i s).bind fun x s1 => match x.2 with
    | .ref n => .ok (.cell n) s1
    | _ => .stuck) → PE X e (tZ W wx (fun σ => RP σ) (rdPlace i (ev P i))) := fun eq => pe_weak h.pv fun σ H Q q => by
    obtain ⟨G, O, s, e1, r, q⟩ := q
    refine ⟨G, O, s, e1, r, ?_⟩
    rw [eq] at q
    refine Out.bind mono_RP q fun a s1 _ b G1 O1 fr r1 rr h1 => ?_
    obtain ⟨o, d⟩ := a
    cases d with
    | ref n =>
      have rr : Rep W G1 (.ref n) b := rr
      simp only [Rep] at rr
      obtain ⟨a, rfl, ha⟩ := rr
      exact Out.refl_ok r1 h1 ⟨a, rfl, ha⟩
    | _ => exact h1.elim
  cases i with
  | v j =>
    refine pe_weak (h.var j rfl) fun σ H Q q => ?_
    obtain ⟨G, O, s, rfl, r, q⟩ := q
    have q : Out W wx G O σ (RP σ) Q (match s.σ[j]? with
      | some (.sh (.ref n)) => .ok (.cell n) s
      | some (.own _) => .ok (.slot j) s
      | _ => .stuck) := q
    cases e : s.σ[j]? with
    | none => rw [e] at q; exact q.elim
    | some x =>
      rw [e] at q
      obtain ⟨v, o, h1, h2, h3⟩ := r.slots j x e
      cases x with
      | no => exact q.elim
      | sh d =>
        obtain ⟨_, y, rfl, ry⟩ := h3
        cases d with
        | ref n =>
          simp only [Rep] at ry
          obtain ⟨a, rfl, ha⟩ := ry
          exact ⟨.ref a, h1, Out.refl_ok (b := V.ref a) r q ⟨a, rfl, ha⟩⟩
        | _ => exact q.elim
      | own c =>
        obtain ⟨a, _, rfl, _⟩ := h3
        exact ⟨.ref a, h1, Out.refl_ok (b := V.ref a) r q ⟨a, rfl, h1⟩⟩
  | _ => exact gen fun s => rfl
theorem plRep_keep {σ : L2.St} {G G' : Gh} {p : Place} {a : Addr} (k : Keep G G') (h : PlRep σ G p a) : PlRep σ G' p a := by
  cases p with
  | slot i => exact h
  | cell n => exact k.mm n a h
theorem nsup_base {o : Expr} {name : Str} {env : Env} (h : nsup o = true) : attributeBase o name env (eval o env) = eval o env := by
  cases o with
  | Call f es kws pos =>
    cases f with
    | Name id p =>
      cases es with
      | nil =>
        cases kws with
        | nil => cases h
        | cons _ _ => rfl
      | cons _ _ => rfl
    | _ => rfl
  | _ => rfl
theorem mshape_of {n : String} {e x : Expr} {es : List Expr} (h : mshape n e = some (x, es)) : ∃ apos pos, e = .Call (.Attribute x (Str.ofString n) apos) es [] pos ∧ nsup x = true ∧ (apos.endLine == pos.line) = true ∧ es.length < 20 := by
  unfold mshape at h
  split at h
  · split at h
    · rename_i q
      cases h
      obtain ⟨rfl, h1, h2, h3⟩ := q
      exact ⟨_, _, rfl, h1, h2, h3⟩
    · cases h
  · cases h
theorem few_of {is : List E} {es : List Expr} (h : EOks W wx X P is es) (env : Env) (pos : Pos) (hl : es.length < 20) :
    ((backTo pos (starEach es env)).all (fun x => !x.1) && (backToKw pos (keywordEach [] env)).all (fun x => x.1.isSome) && decide (es.length + ([] : List Keyword).length + (if ([] : List Keyword).isEmpty then 0 else 1) < 30)) = true := by
  rw [noStarAll h, Bool.true_and]
  show (true && decide (es.length + 0 + 0 < 30)) = true
  rw [Bool.true_and, decide_eq_true_eq]
  omega
theorem two_of {α : Type} {xs : List α} (h : xs.length = 2) : ∃ a b, xs = [a, b] := by
  match xs, h with
  | [a, b], _ => exact ⟨a, b, rfl⟩
theorem three_of {α : Type} {xs : List α} (h : xs.length = 3) : ∃ a b c, xs = [a, b, c] := by
  match xs, h with
  | [a, b, c], _ => exact ⟨a, b, c, rfl⟩
theorem z_meth1 {m : MPrim} {T id : String} {f : D → D → Option (Bool × D)} {o i : E} {x a : Expr} {apos pos : Pos} {name : Str} (ho : EOk W wx X P o x) (hi : EOks W wx X P [i] [a]) (pa : PlainAttrs T) (slot : PySem.Slot T name id) (hty : typeOf (.builtin id) = pure (.type "method_descriptor"))
    (hm : MtR X id (rM W (m1 f))) (hs : nsup x = true) (hl : (apos.endLine == pos.line) = true) (hf : ∀ d e, mprim2 m d e = f d e) (tyok : ∀ (G : Gh) (d : D) (v : V), mrecv m d = true → RepW W G d v → tyV X.K T v G.H) :
    PE X (.Call (.Attribute x name apos) [a] [] pos) (tE W wx (ev P (.mp m o [i]))) := by
  cases hi with
  | cons h1 h2 =>
    have hh : EOks W wx X P [i] [a] := .cons h1 h2
    refine pe_weak (pe_bm pa slot hty hm ho.pr hh.par (nsup_base hs) (few_of hh _ _ (by simp)) hl (star_of h1.ns) (noStar h2 _ _)) fun σ H Q q => ?_
    obtain ⟨G, O, s, e, r, q⟩ := q
    refine ⟨G, O, s, e, r, ?_⟩
    simp only [ev] at q
    refine Out.bind mono_RO q fun a s1 _ v G1 O1 fr r1 rr q1 => ?_
    cases e1 : a.get s1 with
    | none => rw [e1] at q1; exact q1.elim
    | some d0 =>
      rw [e1] at q1
      simp only at q1
      split at q1
      · rename_i hr
        refine ⟨tyok G1 d0 v hr (arg_w (G0 := G) (O0 := O) r1 rr e1), G1, O1, s1, rfl, r1, ?_⟩
        refine Out.bind mono_RO q1 fun as s2 ee xs G2 O2 fr2 r2 rs q2 => ?_
        have ra : AReps W σ G2 (a :: as) (v :: xs) := ⟨v, xs, rfl, arg_keep (O := O) (O2 := O) (s := s1) (O1 := O1) (G := G) fr2.keep rr, rs⟩
        obtain ⟨ds, o', d, hw, hp, kk⟩ := prim_end (p := mprim m) r2 ra q2
        have hlen := repsw_len hw
        have hxs : xs.length = 1 := by rw [areps_len rs, evrs_len ee]; rfl
        have h2' : ds.length = 2 := by rw [← hlen, List.length_cons, hxs]
        obtain ⟨d1, d2, rfl⟩ := two_of h2'
        obtain ⟨_, _, ee, w1, w2⟩ := hw
        cases ee
        exact ⟨G2, d1, [d2], o', d, rfl, r2.dom, w1, w2, (hf ..).symm.trans hp, kk⟩
      · exact q1.elim
theorem z_meth2 {m : MPrim} {T id : String} {f : D → D → D → Option (Bool × D)} {o i j : E} {x a b : Expr} {apos pos : Pos} {name : Str} (ho : EOk W wx X P o x) (hi : EOks W wx X P [i, j] [a, b]) (pa : PlainAttrs T) (slot : PySem.Slot T name id) (hty : typeOf (.builtin id) = pure (.type "method_descriptor"))
    (hm : MtR X id (rM W (m2 f))) (hs : nsup x = true) (hl : (apos.endLine == pos.line) = true) (hf : ∀ d e g, mprim3 m d e g = f d e g) (tyok : ∀ (G : Gh) (d : D) (v : V), mrecv m d = true → RepW W G d v → tyV X.K T v G.H) :
    PE X (.Call (.Attribute x name apos) [a, b] [] pos) (tE W wx (ev P (.mp m o [i, j]))) := by
  cases hi with
  | cons h1 h2 =>
    have hh : EOks W wx X P [i, j] [a, b] := .cons h1 h2
    refine pe_weak (pe_bm pa slot hty hm ho.pr hh.par (nsup_base hs) (few_of hh _ _ (by simp)) hl (star_of h1.ns) (noStar h2 _ _)) fun σ H Q q => ?_
    obtain ⟨G, O, s, e, r, q⟩ := q
    refine ⟨G, O, s, e, r, ?_⟩
    simp only [ev] at q
    refine Out.bind mono_RO q fun a s1 _ v G1 O1 fr r1 rr q1 => ?_
    cases e1 : a.get s1 with
    | none => rw [e1] at q1; exact q1.elim
    | some d0 =>
      rw [e1] at q1
      simp only at q1
      split at q1
      · rename_i hr
        refine ⟨tyok G1 d0 v hr (arg_w (G0 := G) (O0 := O) r1 rr e1), G1, O1, s1, rfl, r1, ?_⟩
        refine Out.bind mono_RO q1 fun as s2 ee xs G2 O2 fr2 r2 rs q2 => ?_
        have ra : AReps W σ G2 (a :: as) (v :: xs) := ⟨v, xs, rfl, arg_keep (O := O) (O2 := O) (s := s1) (O1 := O1) (G := G) fr2.keep rr, rs⟩
        obtain ⟨ds, o', d, hw, hp, kk⟩ := prim_end (p := mprim m) r2 ra q2
        have hlen := repsw_len hw
        have hxs : xs.length = 2 := by rw [areps_len rs, evrs_len ee]; rfl
        have h2' : ds.length = 3 := by rw [← hlen, List.length_cons, hxs]
        obtain ⟨d1, d2, d3, rfl⟩ := three_of h2'
        obtain ⟨_, _, ee, w1, w2⟩ := hw
        cases ee
        exact ⟨G2, d1, [d2, d3], o', d, rfl, r2.dom, w1, w2, (hf ..).symm.trans hp, kk⟩
      · exact q1.elim
theorem ty_str {G : Gh} {d : D} {v : V} (h : ∃ x, d = .str x) (w : RepW W G d v) : tyV X.K "str" v G.H := by
  obtain ⟨x, rfl⟩ := h
  obtain ⟨rfl, _⟩ := repw_str w
  rfl
theorem ty_dict {G : Gh} {d : D} {v : V} (h : ∃ x y, d = .dct x y) (w : RepW W G d v) : tyV X.K "dict" v G.H := by
  obtain ⟨x, y, rfl⟩ := h
  obtain ⟨a, kvs, rfl, e, _⟩ := w
  exact .inr (.inr (.inl ⟨rfl, .inl ⟨kvs, e⟩⟩))
theorem z_mp (C : Cok W nm t k wx N sc ws X) {m : MPrim} {o : E} {is : List E} {e x : Expr} {es : List Expr} (hs : mshape (mpName m) e = some (x, es)) (ha : es.length = mar m) (ho : EOk W wx X P o x) (hi : EOks W wx X P is es) : PE X e (tE W wx (ev P (.mp m o is))) := by
  obtain ⟨apos, pos, rfl, h1, h2, h3⟩ := mshape_of hs
  have u65 := units64 C.room
  have str : ∀ (m' : MPrim), (∀ d, mrecv m' d = true → ∃ x, d = .str x) → ∀ (G : Gh) (d : D) (v : V), mrecv m' d = true → RepW W G d v → tyV X.K "str" v G.H := fun m' hm G d v hr w => ty_str (hm d hr) w
  have dic : ∀ (m' : MPrim), (∀ d, mrecv m' d = true → ∃ x y, d = .dct x y) → ∀ (G : Gh) (d : D) (v : V), mrecv m' d = true → RepW W G d v → tyV X.K "dict" v G.H := fun m' hm G d v hr w => ty_dict (hm d hr) w
  cases m with
  | join =>
    obtain ⟨a, rfl⟩ := List.length_eq_one_iff.mp ha
    obtain ⟨i, rfl, _⟩ := hi.one
    exact z_meth1 ho hi PySem.F.plainAttrs_str PySem.F.slot_str_join PySem.F.type_str_join (mt_joinZ C.eK) h1 h2 (fun _ _ => rfl) (str _ fun d hd => by cases d <;> first | exact ⟨_, rfl⟩ | cases hd)
  | zfill =>
    obtain ⟨a, rfl⟩ := List.length_eq_one_iff.mp ha
    obtain ⟨i, rfl, _⟩ := hi.one
    exact z_meth1 ho hi PySem.F.plainAttrs_str PySem.F.slot_str_zfill PySem.F.type_str_zfill mt_zfillZ h1 h2 (fun _ _ => rfl) (str _ fun d hd => by cases d <;> first | exact ⟨_, rfl⟩ | cases hd)
  | find3 =>
    obtain ⟨a, b, rfl⟩ := two_of ha
    obtain ⟨i, j, rfl, _⟩ := hi.two
    exact z_meth2 ho hi PySem.F.plainAttrs_str PySem.F.slot_str_find PySem.F.type_str_find mt_find3Z h1 h2 (fun _ _ _ => rfl) (str _ fun d hd => by cases d <;> first | exact ⟨_, rfl⟩ | cases hd)
  | get1 =>
    obtain ⟨a, rfl⟩ := List.length_eq_one_iff.mp ha
    obtain ⟨i, rfl, _⟩ := hi.one
    exact z_meth1 ho hi PySem.F.plainAttrs_dict PySem.F.slot_dict_get PySem.F.type_dict_get (mt_get1Z (by omega)) h1 h2 (fun _ _ => rfl) (dic _ fun d hd => by cases d <;> first | exact ⟨_, _, rfl⟩ | cases hd)
  | get2 =>
    obtain ⟨a, b, rfl⟩ := two_of ha
    obtain ⟨i, j, rfl, _⟩ := hi.two
    exact z_meth2 ho hi PySem.F.plainAttrs_dict PySem.F.slot_dict_get PySem.F.type_dict_get (mt_get2Z (by omega)) h1 h2 (fun _ _ _ => rfl) (dic _ fun d hd => by cases d <;> first | exact ⟨_, _, rfl⟩ | cases hd)
  | index => exact absurd (show es.length = 99 from ha) (by omega)
  | startswith => exact absurd (show es.length = 99 from ha) (by omega)
/-! ### methods that change a list -/
theorem mt_extendT : MtM X "list.extend" (fun x vs H Q => ∃ l b xs zs, x = .ref l ∧ vs = [.ref b] ∧ H l = some (.lst xs) ∧ SqT X.K H b zs ∧ xs.length + zs.length ≤ sizeLine ∧ Q .non (upd H l (.lst (xs ++ zs)))) := by
  intro pins s σ H x vs v us Q I rx rv h
  obtain ⟨l, b, xs, zs, rfl, rfl, hH, hB, hz, q⟩ := h
  cases rx
  obtain ⟨u, rfl, ru⟩ := rv.one
  cases ru
  obtain ⟨z, its, n, r, hl, e⟩ := I.lstM hH
  obtain ⟨its2, r2, ht, hz2⟩ := I.tuple hB
  have hl2 := r2.length
  have hsz : its.toArray.size + its2.toArray.size ≤ sizeLine := by rw [List.size_toArray, List.size_toArray]; omega
  have hlong : ¬ (!its.toArray.isEmpty && Builtin.List.listTooLong (its.toArray.size + its2.toArray.size)) = true := by
    rw [notLongL hsz, Bool.and_false]
    exact Bool.false_ne_true
  obtain ⟨⟨oc, od, odt, osl⟩, e2, hc, n2, hd⟩ := ht
  simp only at hc hd
  subst hc hd
  refine call_meets F.slot_list_extend ⟨_, e, rfl⟩ F.entry_list_extend (F.args_list_extend_2 _ _)
    (list_extend_tuple_any l its.toArray n b its2.toArray n2 od osl hlong (by rw [List.size_toArray]; omega) (by omega)) ⟨e, e2, ?_⟩
  refine ⟨.non, _, I.lset (its' := its ++ its2) hH e (by simp) (r.append r2) ?_, rfl, q⟩
  rw [List.length_append]
  omega
/-- what a changing method asks -/
def rMu (W : Wo) (m : Mut) : V → List V → Hp → VK → Prop := fun x vs H Q => ∃ (G : Gh) (a : Addr) (c c' : Cell) (ds : List D) (d : D), G.H = H ∧ Dom G ∧ x = .ref a ∧ CRep W G c a ∧ ¬ G.F a ∧ Reps W G ds vs ∧ mutC m c ds = some (c', d) ∧
  ∀ o' v, (Keep G ⟨upd G.H a o', G.F, G.M⟩ → CRep W ⟨upd G.H a o', G.F, G.M⟩ c' a ∧ Rep W ⟨upd G.H a o', G.F, G.M⟩ d v) → Q v (upd H a o')
theorem reps_one {G : Gh} {d : D} {vs : List V} (h : Reps W G [d] vs) : ∃ v, vs = [v] ∧ Rep W G d v := by
  simp only [Reps] at h
  obtain ⟨v, r, rfl, h1, rfl⟩ := h
  exact ⟨v, rfl, h1⟩
theorem reps_two {G : Gh} {d e : D} {vs : List V} (h : Reps W G [d, e] vs) : ∃ v u, vs = [v, u] ∧ Rep W G d v ∧ Rep W G e u := by
  simp only [Reps] at h
  obtain ⟨v, r, rfl, h1, u, r', rfl, h2, rfl⟩ := h
  exact ⟨v, u, rfl, h1, h2⟩
theorem mt_appendZ : MtR X "list.append" (rMu W .append) := by
  intro pins s σ H x xs v us Q I rx rs q
  obtain ⟨G, a, c, c', ds, d, rfl, dm, rfl, hc, nf, rd, hm, k⟩ := q
  match ds, rd, hm with
  | [e], rd, hm =>
    obtain ⟨u, rfl, re⟩ := reps_one rd
    cases c with
    | L es =>
      have hm : appendC (.L es) e = some (c', d) := hm
      simp only [appendC] at hm
      split at hm
      · rename_i hl
        cases hm
        obtain ⟨ws, h1, h2⟩ := hc
        refine mt_append pins s σ _ _ _ v us Q I rx rs ⟨a, ws, u, rfl, rfl, h1, by rw [h2.len, ← lim_line]; exact hl, k _ _ fun kp => ⟨⟨_, upd_same, (Reps.keep kp _ _ h2).append (.one (Rep.keep kp _ _ re))⟩, rep_non⟩⟩
      · cases hm
    | _ => cases hm
  | [], _, hm => cases hm
  | _ :: _ :: _, _, hm => cases hm
theorem mt_extendZ (hK : W.K = X.K) : MtR X "list.extend" (rMu W .extend) := by
  intro pins s σ H x xs v us Q I rx rs q
  obtain ⟨G, a, c, c', ds, d, rfl, dm, rfl, hc, nf, rd, hm, k⟩ := q
  match ds, rd, hm with
  | [e], rd, hm =>
    obtain ⟨u, rfl, re⟩ := reps_one rd
    cases c with
    | L es =>
      have hm : extendC (.L es) e = some (c', d) := hm
      simp only [extendC] at hm
      cases e2 : seqOf e with
      | none => rw [e2] at hm; cases hm
      | some zs =>
        rw [e2] at hm
        simp only at hm
        split at hm
        · rename_i hl
          cases hm
          obtain ⟨ws, h1, h2⟩ := hc
          obtain ⟨b, us', rfl, hs, r⟩ := reps_seq re.w e2
          have fin := k (.lst (ws ++ us')) .non fun kp => ⟨⟨_, upd_same, (Reps.keep kp _ _ h2).append (Reps.keep kp _ _ r)⟩, rep_non⟩
          rcases hs with hs | hs
          · exact mt_extend pins s σ _ _ _ v us Q I rx rs ⟨a, b, ws, us', rfl, rfl, h1, hs, by rw [h2.len, r.len, ← lim_line]; exact hl, fin⟩
          · exact mt_extendT pins s σ _ _ _ v us Q I rx rs ⟨a, b, ws, us', rfl, rfl, h1, hK ▸ hs, by rw [h2.len, r.len, ← lim_line]; exact hl, fin⟩
        · cases hm
    | _ => cases hm
  | [], _, hm => cases hm
  | _ :: _ :: _, _, hm => cases hm
theorem Reps.dropLast {G : Gh} {ds : List D} {vs : List V} (h : Reps W G ds vs) : Reps W G ds.dropLast vs.dropLast := by
  rw [List.dropLast_eq_take, List.dropLast_eq_take, h.len]
  exact h.take _
theorem mt_popZ : MtR X "list.pop" (rMu W .pop) := by
  intro pins s σ H x xs v us Q I rx rs q
  obtain ⟨G, a, c, c', ds, d, rfl, dm, rfl, hc, nf, rd, hm, k⟩ := q
  match ds, rd, hm with
  | [], rd, hm =>
    have e : xs = [] := by simpa only [Reps] using rd
    subst e
    cases c with
    | L es =>
      have hm : popC (.L es) = some (c', d) := hm
      simp only [popC] at hm
      cases e2 : es.getLast? with
      | none => rw [e2] at hm; cases hm
      | some z =>
        rw [e2] at hm
        cases hm
        obtain ⟨ws, h1, h2⟩ := hc
        rw [List.getLast?_eq_getElem?] at e2
        obtain ⟨w, hw, rw'⟩ := h2.get e2
        rw [← h2.len] at hw
        exact mt_pop pins s σ _ _ _ v us Q I rx rs ⟨a, ws, w, rfl, rfl, h1, hw, k _ _ fun kp => ⟨⟨_, upd_same, (Reps.keep kp _ _ h2).dropLast⟩, Rep.keep kp _ _ rw'⟩⟩
    | _ => cases hm
  | _ :: _, _, hm => cases hm
theorem mt_insertZ : MtR X "list.insert" (rMu W .insert) := by
  intro pins s σ H x xs v us Q I rx rs q
  obtain ⟨G, a, c, c', ds, d, rfl, dm, rfl, hc, nf, rd, hm, k⟩ := q
  match ds, rd, hm with
  | [e, f], rd, hm =>
    obtain ⟨u, w, rfl, re, rf⟩ := reps_two rd
    cases c with
    | L es =>
      cases e with
      | int i =>
        have hm : insertC (.L es) (.int i) f = some (c', d) := hm
        simp only [insertC] at hm
        split at hm
        · rename_i hl
          cases hm
          cases repw_int re.w
          obtain ⟨ws, h1, h2⟩ := hc
          refine mt_insert pins s σ _ _ _ v us Q I rx rs ⟨a, ws, i, w, rfl, rfl, h1, by rw [h2.len, ← lim_line]; exact hl.1, hl.2.1, by have := hl.2.2; omega, k _ _ fun kp => ?_⟩
          have q2 := Reps.keep kp _ _ h2
          exact ⟨⟨_, upd_same, ((q2.take _).append (.one (Rep.keep kp _ _ rf))).append (q2.drop _)⟩, rep_non⟩
        · cases hm
      | _ => cases hm
    | _ => cases hm
  | [], _, hm => cases hm
  | [_], _, hm => cases hm
  | _ :: _ :: _ :: _, _, hm => cases hm
/-- a changing method, called -/
theorem mu_end {p : Place} {m : Mut} {G : Gh} {O : List (Option Addr)} {s : Sta} {σ : L2.St} {a : Addr} {ds : List D} {vs : List V} {Q : VK} (r : StRep W G s σ O) (pl : PlRep σ G p a) (rd : Reps W G ds vs)
    (h : Out W wx G O σ (RO W) Q (match p.get s with
        | some c => match mutC m c ds with
          | some (c', d) => .ok (false, d) (p.set s c')
          | none => .stuck
        | none => .stuck)) : rMu W m (.ref a) vs G.H Q := by
  cases e : p.get s with
  | none => rw [e] at h; exact h.elim
  | some c =>
    rw [e] at h
    simp only at h
    cases e2 : mutC m c ds with
    | none => rw [e2] at h; exact h.elim
    | some x =>
      obtain ⟨c', d⟩ := x
      rw [e2] at h
      obtain ⟨h1, h2, h3⟩ := place_at r e pl
      refine ⟨G, a, c, c', ds, d, rfl, r.dom, rfl, h1, h2, rd, e2, fun o' v new => ?_⟩
      have kp : Keep G ⟨upd G.H a o', G.F, G.M⟩ := by
        obtain ⟨oa, ha, him⟩ := h1.there
        refine ⟨fun b x e i => ?_, fun b f => ⟨f, ?_⟩, fun _ _ e => e⟩
        · show upd G.H a o' b = some x
          rw [upd_ne]
          · exact e
          · rintro rfl
            rw [ha] at e; cases e
            rw [him] at i; cases i
        · show upd G.H a o' b = G.H b
          rw [upd_ne]
          rintro rfl
          exact h2 f
      obtain ⟨n1, n2⟩ := new kp
      obtain ⟨r2, f2⟩ := place_set r e pl (fun _ => n1)
      exact h v ⟨upd G.H a o', G.F, G.M⟩ O f2 r2 (ro_val n2)
theorem z_mu (C : Cok W nm t k wx N sc ws X) {m : Mut} {o : E} {is : List E} {e x : Expr} {es : List Expr} (hs : mshape (muName m) e = some (x, es)) (ha : es.length = uar m) (ho : EOk W wx X P o x) (hi : EOks W wx X P is es) : PE X e (tE W wx (ev P (.mu m o is))) := by
  obtain ⟨apos, pos, rfl, h1, h2, h3⟩ := mshape_of hs
  have tyok : ∀ {G : Gh} {s : Sta} {σ : L2.St} {O : List (Option Addr)} {p : Place} {a : Addr}, StRep W G s σ O → PlRep σ G p a → isList (p.get s) = true → tyV X.K "list" (.ref a) G.H := fun {G s σ O p a} r pl q => by
    cases e : p.get s with
    | none => rw [e] at q; cases q
    | some c =>
      rw [e] at q
      obtain ⟨h1, _⟩ := place_at r e pl
      cases c with
      | L ds =>
        obtain ⟨vs, e1, _⟩ := h1
        exact .inl ⟨rfl, vs, .inl (.inl e1)⟩
      | _ => cases q
  have fin : ∀ {id : String}, PySem.Slot "list" (Str.ofString (muName m)) id → typeOf (.builtin id) = pure (.type "method_descriptor") → MtR X id (rMu W m) → PE X (.Call (.Attribute x (Str.ofString (muName m)) apos) es [] pos) (tE W wx (ev P (.mu m o is))) := fun {id} slot hty hm => by
    have core : ∀ {σ : L2.St} {H : Hp} {Q : VK}, tE W wx (ev P (.mu m o is)) σ H Q → tZ W wx (fun σ => RP σ) (rdPlace o (ev P o)) σ H fun x H1 => tyV X.K "list" x H1 ∧ tVs W wx (evs P is) σ H1 fun xs H2 => rMu W m x xs H2 Q := fun {σ H Q} q => by
      obtain ⟨G, O, s, e, r, q⟩ := q
      refine ⟨G, O, s, e, r, ?_⟩
      simp only [ev] at q
      refine Out.bind mono_RO q fun p s1 _ v G1 O1 fr r1 rr q1 => ?_
      obtain ⟨a, rfl, pl⟩ := rr
      split at q1
      · rename_i il
        refine ⟨tyok r1 pl il, G1, O1, s1, rfl, r1, ?_⟩
        refine Out.bind mono_RO q1 fun ds s2 _ vs G2 O2 fr2 r2 rs q2 => ?_
        exact mu_end r2 (plRep_keep fr2.keep pl) rs q2
      · exact q1.elim
    cases hi with
    | nil =>
      refine pe_weak (pe_bm0 PySem.F.plainAttrs_list slot hty hm ho.pp (nsup_base h1) h2) fun σ H Q q => ?_
      obtain ⟨G, O, s, e, r, q⟩ := q
      refine ⟨G, O, s, e, r, ?_⟩
      simp only [ev] at q
      refine Out.bind mono_RO q fun p s1 _ v G1 O1 fr r1 rr q1 => ?_
      obtain ⟨a, rfl, pl⟩ := rr
      split at q1
      · rename_i il
        exact ⟨tyok r1 pl il, mu_end r1 pl (by simp [Reps]) q1⟩
      · exact q1.elim
    | cons g1 g2 =>
      exact pe_weak (pe_bm PySem.F.plainAttrs_list slot hty hm ho.pp (EOks.cons g1 g2).pa (nsup_base h1) (few_of (.cons g1 g2) _ _ h3) h2 (star_of g1.ns) (noStar g2 _ _)) fun σ H Q q => core q
  cases m with
  | append => exact fin PySem.F.slot_list_append PySem.F.type_list_append mt_appendZ
  | extend => exact fin PySem.F.slot_list_extend PySem.F.type_list_extend (mt_extendZ C.eK)
  | pop => exact fin PySem.F.slot_list_pop PySem.F.type_list_pop mt_popZ
  | insert => exact fin PySem.F.slot_list_insert PySem.F.type_list_insert mt_insertZ
  | popAt => exact absurd (show es.length = 99 from ha) (by omega)
end
end Z

set_option Elab.async false
set_option linter.all false
set_option maxRecDepth 100000
set_option maxHeartbeats 2000000
set_option autoImplicit false
/-! ZSnd4: tests, and, or, not, if-else. -/
namespace Z
open PySem PySem.Spec PyProof.Rows L2
section
variable {W : Wo} {wx : WX} {X : Cx} {P : Prog} {nm : Nm} {t : Tbl} {k : Nat} {N : List Str} {sc ws : Scope}
structure TOk (W : Wo) (wx : WX) (X : Cx) (P : Prog) (i : T) (e : Expr) : Prop where
  pt : PT X e (tB W wx (evt P i))
inductive TOks (W : Wo) (wx : WX) (X : Cx) (P : Prog) : List T → List Expr → Prop where
  | nil : TOks W wx X P [] []
  | cons {i : T} {e : Expr} {is : List T} {es : List Expr} : TOk W wx X P i e → TOks W wx X P is es → TOks W wx X P (i :: is) (e :: es)
theorem tru_of {G : Gh} {d : D} {v : V} {b : Bool} (hK : W.K = X.K) (h : RepW W G d v) (e : truthD d = some b) : TruV X.K v G.H b := by
  have hs : sizeLine = 16777216 := sizeLine_eq
  have hL : LIM = 16777216 := rfl
  cases d with
  | non => cases e; cases repw_non h; rfl
  | bl c => cases e; cases repw_bl h; rfl
  | int i => cases e; cases repw_int h; rfl
  | str x =>
    cases e
    obtain ⟨rfl, h1, _⟩ := repw_str h
    refine ⟨by rw [toS_len, ← lim_line]; exact h1, ?_⟩
    rw [toS_len]
    cases x <;> simp <;> omega
  | tup ds =>
    cases e
    obtain ⟨a, vs, rfl, h1, h2⟩ := repw_tup h
    refine .inr (.inl ⟨vs, hK ▸ h1, ?_⟩)
    have := h2.len
    cases ds <;> cases vs <;> simp_all
  | lst ds =>
    cases e
    obtain ⟨a, vs, rfl, h1, h2⟩ := h
    refine .inl ⟨vs, .inl (.inl h1), ?_⟩
    have := h2.len
    cases ds <;> cases vs <;> simp_all
  | dct ks us =>
    cases e
    obtain ⟨a, kvs, rfl, h1, h2, _⟩ := h
    refine .inr (.inr ⟨kvs, h1, ?_⟩)
    subst h2
    cases kvs <;> simp
  | _ => cases e
theorem kont_bl {G : Gh} {s : Sta} {σ : L2.St} {O : List (Option Addr)} {o : Bool} {c : Bool} {Q : Bool → Hp → Prop} (r : StRep W G s σ O) (h : Out W wx G O σ RB Q (.ok c s)) : Kont W G (fun z H' => ∃ k, z = .bl k ∧ Q k H') o (.bl c) := by
  intro v G' e n
  unfold NewRep at n
  split at n
  · obtain ⟨c', a, h1, _⟩ := n
    cases h1
  · exact ⟨c, repw_bl n.w, h c G' O (r.fr e) (r.ext e) rfl⟩
theorem z_tcmp (C : Cok W nm t k wx N sc ws X) {op : CmpOp} {i j : E} {a b : Expr} {pos : Pos} (h1 : EOk W wx X P i a) (h2 : EOk W wx X P j b) (hm : behindInMarks op b = false) : TOk W wx X P (.cmp op i j) (.Compare a [op] [b] pos) := by
  have u65 := units64 C.room
  refine ⟨pt_weak (pt_cmpR (op_cmp u65 C.eK op) h1.pr h2.pr hm) fun σ H Q q => ?_⟩
  obtain ⟨G, O, s, e, r, q⟩ := q
  refine ⟨G, O, s, e, r, ?_⟩
  simp only [evt] at q
  refine Out.bind mono_RB q fun a s1 _ x G1 O1 fr r1 rr q1 => ⟨G1, O1, s1, rfl, r1, ?_⟩
  refine Out.bind mono_RB q1 fun b s2 _ y G2 O2 fr2 r2 rr2 q2 => ?_
  have ra : RA W σ G2 O2 G2 O2 s2 a x := arg_keep (O := O) (O2 := O2) fr2.keep rr
  cases e1 : a.get s2 with
  | none => rw [e1] at q2; exact q2.elim
  | some d =>
    cases e2 : b.get s2 with
    | none => rw [e1, e2] at q2; exact q2.elim
    | some e =>
      rw [e1, e2] at q2
      simp only at q2
      cases e3 : cmpD op d e with
      | none => rw [e3] at q2; exact q2.elim
      | some p =>
        obtain ⟨o, d'⟩ := p
        rw [e3] at q2
        cases d' with
        | bl c => exact ⟨G2, d, e, o, .bl c, rfl, r2.dom, arg_w r2 ra e1, arg_w r2 rr2 e2, e3, kont_bl r2 q2⟩
        | _ => exact q2.elim
theorem z_te (C : Cok W nm t k wx N sc ws X) {i : E} {a : Expr} (h : EOk W wx X P i a) (hs : plainT a = true) : TOk W wx X P (.e i) a := by
  refine ⟨pt_weak (pt_truth h.pr (truth_he hs)) fun σ H Q q => ?_⟩
  obtain ⟨G, O, s, e, r, q⟩ := q
  refine ⟨G, O, s, e, r, ?_⟩
  simp only [evt] at q
  refine Out.bind mono_RB q fun a s1 _ x G1 O1 fr r1 rr q1 => ?_
  cases e1 : a.get s1 with
  | none => rw [e1] at q1; exact q1.elim
  | some d =>
    rw [e1] at q1
    simp only at q1
    cases e2 : truthD d with
    | none => rw [e2] at q1; exact q1.elim
    | some b =>
      rw [e2] at q1
      exact ⟨b, tru_of C.eK (arg_w (G0 := G) (O0 := O) r1 rr e1) e2, Out.refl_ok (b := b) r1 q1 rfl⟩
theorem z_tnot {i : T} {a : Expr} {pos : Pos} (h : TOk W wx X P i a) : TOk W wx X P (.not i) (.UnaryOp .Not a pos) := by
  refine ⟨pt_weak (pt_not h.pt) fun σ H Q q => ?_⟩
  obtain ⟨G, O, s, e, r, q⟩ := q
  refine ⟨G, O, s, e, r, ?_⟩
  simp only [evt] at q
  refine Out.bind mono_RB q fun a s1 _ x G1 O1 fr r1 rr q1 => ?_
  have rr : a = x := rr
  subst rr
  exact Out.refl_ok (b := !a) r1 q1 rfl
theorem z_tbop {op : BoolOp} {b : Bool} (hb : bopIs b op = true) {pos : Pos} : ∀ {is : List T} {es : List Expr}, TOks W wx X P is es → is ≠ [] → PW X (.BoolOp op es pos) (tB W wx (evtb P b is))
  | _, _, .nil, h => absurd rfl h
  | _, _, .cons (i := i) (e := e) h1 .nil, _ => by
    have w : ∀ (σ : L2.St) (H : Hp) (Q : Bool → Hp → Prop), tB W wx (evtb P b [i]) σ H Q → tB W wx (evt P i) σ H Q := fun σ H Q q => by
      obtain ⟨G, O, s, e, r, q⟩ := q
      refine ⟨G, O, s, e, r, ?_⟩
      simp only [evtb] at q
      exact Out.bind mono_RB q fun a s1 _ x G1 O1 fr r1 rr q1 => Out.refl_ok (b := x) r1 q1 rr
    cases op with
    | And => exact ⟨fun wh pins s σ H Q I q => (pw_and1 h1.pt).run wh pins s σ H Q I (w σ H Q q)⟩
    | Or => exact ⟨fun wh pins s σ H Q I q => (pw_or1 h1.pt).run wh pins s σ H Q I (w σ H Q q)⟩
  | _, _, .cons (i := i) (e := e) h1 (.cons (i := j) (e := e2) (is := js) h2 hs), _ => by
    have ih := z_tbop hb (pos := pos) (.cons h2 hs) (by simp)
    cases op with
    | And =>
      have hb : b = true := hb
      subst hb
      refine ⟨fun wh pins s σ H Q I q => (pw_and h1.pt ih).run wh pins s σ H Q I ?_⟩
      obtain ⟨G, O, s, e, r, q⟩ := q
      refine ⟨G, O, s, e, r, ?_⟩
      simp only [evtb] at q
      refine Out.bind mono_RB q fun a s1 _ x G1 O1 fr r1 rr q1 => ?_
      have rr : a = x := rr
      subst rr
      split at q1
      · rename_i ec
        rw [if_pos ec]
        exact ⟨G1, O1, s1, rfl, r1, q1⟩
      · rename_i ec
        rw [if_neg ec]
        have ec : a = false := by simpa using ec
        subst ec
        exact Out.refl_ok (b := false) r1 q1 rfl
    | Or =>
      have hb : b = false := by simpa [bopIs] using hb
      subst hb
      refine ⟨fun wh pins s σ H Q I q => (pw_or h1.pt ih).run wh pins s σ H Q I ?_⟩
      obtain ⟨G, O, s, e, r, q⟩ := q
      refine ⟨G, O, s, e, r, ?_⟩
      simp only [evtb] at q
      refine Out.bind mono_RB q fun a s1 _ x G1 O1 fr r1 rr q1 => ?_
      have rr : a = x := rr
      subst rr
      cases a with
      | true => exact Out.refl_ok (b := true) r1 q1 rfl
      | false => exact ⟨G1, O1, s1, rfl, r1, q1⟩
theorem z_notV (C : Cok W nm t k wx N sc ws X) {i : E} {a : Expr} {pos : Pos} (h : EOk W wx X P i a) : PE X (.UnaryOp .Not a pos) (tE W wx (ev P (.notV i))) := by
  refine pe_weak (pe_notT h.pr) fun σ H Q q => ?_
  obtain ⟨G, O, s, e, r, q⟩ := q
  refine ⟨G, O, s, e, r, ?_⟩
  simp only [ev] at q
  refine Out.bind mono_RO q fun a s1 _ x G1 O1 fr r1 rr q1 => ?_
  cases e1 : a.get s1 with
  | none => rw [e1] at q1; exact q1.elim
  | some d =>
    rw [e1] at q1
    simp only at q1
    cases e2 : truthD d with
    | none => rw [e2] at q1; exact q1.elim
    | some b =>
      rw [e2] at q1
      exact ⟨b, tru_of C.eK (arg_w (G0 := G) (O0 := O) r1 rr e1) e2, Out.refl_ok (b := V.bl (!b)) r1 q1 (ro_val rep_bl)⟩
theorem z_bopV {op : BoolOp} {b : Bool} (hb : bopIs b op = true) {pos : Pos} : ∀ {is : List E} {es : List Expr}, EOks W wx X P is es → is ≠ [] → PE X (.BoolOp op es pos) (tE W wx (evb P b is))
  | _, _, .nil, h => absurd rfl h
  | _, _, .cons (i := i) (e := e) h1 .nil, _ => by
    refine pe_weak (pe_one h1.pv) fun σ H Q q => ?_
    obtain ⟨G, O, s, e, r, q⟩ := q
    refine ⟨G, O, s, e, r, ?_⟩
    simp only [evb] at q
    refine Out.bind mono_RO q fun a s1 _ x G1 O1 fr r1 rr q1 => ?_
    obtain ⟨o, d⟩ := a
    cases d with
    | bl c =>
      cases repw_bl (show Rep W G1 (.bl c) x from rr).w
      exact Out.refl_ok (b := V.bl c) r1 q1 (ro_val rep_bl)
    | _ => exact q1.elim
  | _, _, .cons (i := i) (e := e) h1 (.cons (i := j) (e := e2) (is := js) h2 hs), _ => by
    have ih := z_bopV hb (pos := pos) (.cons h2 hs) (by simp)
    cases op with
    | And =>
      have hb : b = true := hb
      subst hb
      refine pe_weak (pe_and h1.pv ih) fun σ H Q q => ?_
      obtain ⟨G, O, s, e, r, q⟩ := q
      refine ⟨G, O, s, e, r, ?_⟩
      simp only [evb] at q
      refine Out.bind mono_RO q fun a s1 _ x G1 O1 fr r1 rr q1 => ?_
      obtain ⟨o, d⟩ := a
      cases d with
      | bl c =>
        cases repw_bl (show Rep W G1 (.bl c) x from rr).w
        refine ⟨c, rfl, ?_⟩
        cases c with
        | true => exact ⟨G1, O1, s1, rfl, r1, q1⟩
        | false => exact Out.refl_ok (b := V.bl false) r1 q1 (ro_val rep_bl)
      | _ => exact q1.elim
    | Or =>
      have hb : b = false := by simpa [bopIs] using hb
      subst hb
      refine pe_weak (pe_or h1.pv ih) fun σ H Q q => ?_
      obtain ⟨G, O, s, e, r, q⟩ := q
      refine ⟨G, O, s, e, r, ?_⟩
      simp only [evb] at q
      refine Out.bind mono_RO q fun a s1 _ x G1 O1 fr r1 rr q1 => ?_
      obtain ⟨o, d⟩ := a
      cases d with
      | bl c =>
        cases repw_bl (show Rep W G1 (.bl c) x from rr).w
        refine ⟨c, rfl, ?_⟩
        cases c with
        | true => exact Out.refl_ok (b := V.bl true) r1 q1 (ro_val rep_bl)
        | false => exact ⟨G1, O1, s1, rfl, r1, q1⟩
      | _ => exact q1.elim
theorem z_ite {i : T} {a b : E} {c x y : Expr} {pos : Pos} (hc : TOk W wx X P i c) (ha : EOk W wx X P a x) (hb : EOk W wx X P b y) : PE X (.IfExp c x y pos) (tE W wx (ev P (.ite i a b))) := by
  refine pe_weak (pe_ifExp hc.pt ha.pe hb.pe) fun σ H Q q => ?_
  obtain ⟨G, O, s, e, r, q⟩ := q
  refine ⟨G, O, s, e, r, ?_⟩
  simp only [ev] at q
  refine Out.bind mono_RO q fun a s1 _ x G1 O1 fr r1 rr q1 => ?_
  have rr : a = x := rr
  subst rr
  split at q1
  · rename_i ec
    rw [if_pos ec]
    exact ⟨G1, O1, s1, rfl, r1, q1⟩
  · rename_i ec
    rw [if_neg ec]
    exact ⟨G1, O1, s1, rfl, r1, q1⟩
/-- a name that holds a def, called -/
theorem z_fcallv {i : Nat} {is : List E} {es : List Expr} {g : Expr} {pos : Pos} (C : Cok W nm t k wx N sc ws X) (hg : isVar N sc i g = true) (hne : es ≠ []) (h : EOks W wx X (prog t k) is es) : PE X (.Call g es [] pos) (tE W wx (ev (prog t k) (.callv i is))) := by
  obtain ⟨x, p, rfl, h1, h2, h3, h4⟩ := isVar_of C hg
  refine ⟨fun pins s σ H Q I q => ?_⟩
  obtain ⟨G, O, z, e, r, q⟩ := q
  simp only [ev] at q
  split at q
  · rename_i f es'
    obtain ⟨v, o, s1, _, _, u, rfl, ru⟩ := r.slots i _ es'
    simp only [Rep] at ru
    obtain ⟨a, rfl, hb⟩ := ru
    have hf := C.fa f a hb
    obtain ⟨y, a', fd, ps, g1, g2, g3, g4, g5, g6, g7⟩ := (C.fns f _ (List.getElem?_eq_getElem hf)).ex
    rw [g2] at hb; cases hb
    have hr : Room (2 * k) X.A := C.room.mono (by omega)
    cases h with
    | nil => exact absurd rfl hne
    | cons h1' h2' =>
      rename_i i1 e1 is' es1
      have hh : EOks W wx X (prog t k) (i1 :: is') (e1 :: es1) := .cons h1' h2'
      refine wpAny_Call_Name_kw (thn ((pe_var (pos := p) h1 h2 h3 h4).run pins s σ H (fun v H1 => v = .ref a ∧ H1 = H) I ⟨.ref a, s1, rfl, rfl⟩) fun u s2 ⟨v, H1, I1, r1, q1⟩ => ?_)
      obtain ⟨rfl, rfl⟩ := q1
      cases r1
      have ta : tVs W wx (evs (prog t k) (i1 :: is')) σ H1 (fun vs H2 => spZ W (Phi t k f) vs H2 Q (WE wx σ)) := by
        refine ⟨G, O, z, e, r, ?_⟩
        refine Out.bind mono_RO q fun ds s1 _ vs G1 O1 fr r1 rr q1 => ?_
        exact sp_of_out (f := Phi t k f) r1 rr q1
      refine PySem.W.callWith_K (h₀ := X.base) I.ok.mod.kin g4 (thn (hh.pa.run pos pins s2 σ _ _ I1 ta) fun us s3 ⟨vs, H2, I2, r, q⟩ => ⟨I2.kIn, ?_⟩) (star_of h1'.ns) (noStar h2' _ _)
      exact run_fnS g7 hr g5 (passAt C.tk σ) I2 r q
  · exact q.elim
end
end Z

set_option Elab.async false
set_option linter.all false
set_option maxRecDepth 100000
set_option maxHeartbeats 2000000
set_option autoImplicit false
/-! ZSnd5: targets. -/
namespace Z
open PySem PySem.Spec PyProof.Rows L2
section
variable {W : Wo} {G G' : Gh} {s : Sta} {σ : L2.St} {O : List (Option Addr)}
/-- the other slots stay -/
theorem slots_ne (r : StRep W G s σ O) {i j : Nat} {y x : Slot} {v' : Option V} {o' : Option Addr} (hj : j ≠ i) (hx : (s.σ.set i y)[j]? = some x) : ∃ (v : Option V) (o : Option Addr), (σ.set i v')[j]? = some v ∧ (O.set i o')[j]? = some o ∧ SlotRep W G x v o := by
  rw [List.getElem?_set_ne (Ne.symm hj)] at hx
  obtain ⟨v, o, e1, e2, e3⟩ := r.slots j x hx
  exact ⟨v, o, by rw [List.getElem?_set_ne (Ne.symm hj)]; exact e1, by rw [List.getElem?_set_ne (Ne.symm hj)]; exact e2, e3⟩
/-- a name holds a datum -/
theorem StRep.put (r : StRep W G s σ O) {i : Nat} {d : D} {v : V} (hi : i < s.σ.length) (h : Rep W G d v) : StRep W G { s with σ := s.σ.set i (.sh d) } (σ.set i (some v)) (O.set i none) := by
  refine ⟨?_, ?_, fun j x hx => ?_, r.lenM, r.cells, ?_, r.dom⟩
  · simpa using r.len
  · simpa using r.lenO
  · have hx : (s.σ.set i (.sh d))[j]? = some x := hx
    by_cases hj : j = i
    · subst hj
      rw [List.getElem?_set_self hi] at hx
      cases hx
      exact ⟨some v, none, by rw [List.getElem?_set_self (by rw [r.len]; exact hi)], by rw [List.getElem?_set_self (by rw [r.lenO]; exact hi)], rfl, v, rfl, h⟩
    · exact slots_ne r hj hx
  · obtain ⟨n1, n2, n3⟩ := List.nodup_append.mp r.nd
    exact List.nodup_append.mpr ⟨ow_nodup_set i n1, n2, fun x hx y hy => n3 x (ow_set (a := x) hx) y hy⟩
theorem frm_put {i : Nat} : Frm G (ow O) G (ow (O.set i none)) := ⟨.refl G, fun _ _ e _ _ => e, fun _ h => .inl h, fun a h => .inl (ow_set (a := a) h), fun _ h => .inl h, fun _ x e => ⟨x, e⟩⟩
/-- a name forgotten -/
theorem StRep.drop (r : StRep W G s σ O) {i : Nat} {v : Option V} : StRep W G { s with σ := s.σ.set i .no } (σ.set i v) (O.set i none) := by
  refine ⟨?_, ?_, fun j x hx => ?_, r.lenM, r.cells, ?_, r.dom⟩
  · simpa using r.len
  · simpa using r.lenO
  · have hx : (s.σ.set i .no)[j]? = some x := hx
    by_cases hj : j = i
    · subst hj
      have hi : j < s.σ.length := by
        have := (List.getElem?_eq_some_iff.mp hx).1
        simpa using this
      rw [List.getElem?_set_self hi] at hx
      cases hx
      exact ⟨v, none, by rw [List.getElem?_set_self (by rw [r.len]; exact hi)], by rw [List.getElem?_set_self (by rw [r.lenO]; exact hi)], rfl⟩
    · exact slots_ne r hj hx
  · obtain ⟨n1, n2, n3⟩ := List.nodup_append.mp r.nd
    exact List.nodup_append.mpr ⟨ow_nodup_set i n1, n2, fun x hx y hy => n3 x (ow_set (a := x) hx) y hy⟩
theorem ow_setS {O : List (Option Addr)} {i : Nat} {a b : Addr} (h : b ∈ ow (O.set i (some a))) : b = a ∨ b ∈ ow O := by
  obtain ⟨x, hx, ex⟩ := List.mem_filterMap.mp h
  rcases List.mem_or_eq_of_mem_set hx with hx | hx
  · exact .inr (List.mem_filterMap.mpr ⟨x, hx, ex⟩)
  · subst hx; cases ex; exact .inl rfl
theorem ow_nodup_setS : ∀ {O : List (Option Addr)} (i : Nat) {a : Addr}, a ∉ ow O → (ow O).Nodup → (ow (O.set i (some a))).Nodup
  | [], _, _, _, h => h
  | o :: O, 0, a, ha, h => by
    show (a :: ow O).Nodup
    cases o with
    | none => exact List.nodup_cons.mpr ⟨ha, h⟩
    | some b =>
      have h : (b :: ow O).Nodup := h
      exact List.nodup_cons.mpr ⟨fun z => ha (List.mem_cons_of_mem b z : a ∈ b :: ow O), (List.nodup_cons.mp h).2⟩
  | o :: O, i + 1, a, ha, h => by
    cases o with
    | none => exact ow_nodup_setS (O := O) i ha h
    | some b =>
      have h : (b :: ow O).Nodup := h
      have ha : a ∉ b :: ow O := ha
      obtain ⟨h1, h2⟩ := List.nodup_cons.mp h
      show (b :: ow (O.set i (some a))).Nodup
      refine List.nodup_cons.mpr ⟨fun z => ?_, ow_nodup_setS i (fun z => ha (List.mem_cons_of_mem _ z)) h2⟩
      rcases ow_setS z with e | e
      · exact ha (by rw [e]; exact List.mem_cons_self)
      · exact h1 e
/-- a name holds an object that nobody else knows -/
theorem StRep.putO (r : StRep W G s σ O) {i : Nat} {c : Cell} {a : Addr} (hi : i < s.σ.length) (h : CRep W G c a) (nf : ¬ G.F a) (n1 : a ∉ ow O) (n2 : a ∉ G.M) : StRep W G { s with σ := s.σ.set i (.own c) } (σ.set i (some (.ref a))) (O.set i (some a)) := by
  refine ⟨?_, ?_, fun j x hx => ?_, r.lenM, r.cells, ?_, r.dom⟩
  · simpa using r.len
  · simpa using r.lenO
  · have hx : (s.σ.set i (.own c))[j]? = some x := hx
    by_cases hj : j = i
    · subst hj
      rw [List.getElem?_set_self hi] at hx
      cases hx
      exact ⟨some (.ref a), some a, by rw [List.getElem?_set_self (by rw [r.len]; exact hi)], by rw [List.getElem?_set_self (by rw [r.lenO]; exact hi)], a, rfl, rfl, h, nf⟩
    · exact slots_ne r hj hx
  · obtain ⟨m1, m2, m3⟩ := List.nodup_append.mp r.nd
    refine List.nodup_append.mpr ⟨ow_nodup_setS i n1 m1, m2, fun x hx y hy => ?_⟩
    rcases ow_setS hx with e | e
    · subst e
      exact fun z => n2 (z ▸ hy)
    · exact m3 x e y hy
theorem frm_putO {G0 : Gh} {O0 : List (Option Addr)} {i : Nat} {a : Addr} (f : Frm G0 (ow O0) G (ow O)) (h : fresh G0 O0 a) : Frm G0 (ow O0) G (ow (O.set i (some a))) := by
  refine ⟨f.keep, f.rest, f.fz, fun b hb => ?_, f.mm, f.dm⟩
  rcases ow_setS hb with e | e
  · subst e; exact h
  · exact f.ow b e
end

/-! ### targets -/
/-- a target: the datum stored -/
def tG (W : Wo) (tg : Tg) : TG := fun v σ H Q => ∃ (G : Gh) (O : List (Option Addr)) (s : Sta) (d : D) (z : List Slot), G.H = H ∧ StRep W G s σ O ∧ Rep W G d v ∧ assign tg d s.σ = some z ∧
  ∀ σ' O', StRep W G { s with σ := z } σ' O' → Frm G (ow O) G (ow O') → (∀ j, j ∉ tgv tg → σ'[j]? = σ[j]?) → σ'.length = σ.length → Q σ' H
def tGs (W : Wo) (tgs : List Tg) : TGs := fun vs σ H Q => ∃ (G : Gh) (O : List (Option Addr)) (s : Sta) (ds : List D) (z : List Slot), G.H = H ∧ StRep W G s σ O ∧ Reps W G ds vs ∧ assigns tgs ds s.σ = some z ∧
  ∀ σ' O', StRep W G { s with σ := z } σ' O' → Frm G (ow O) G (ow O') → (∀ j, j ∉ tgvs tgs → σ'[j]? = σ[j]?) → σ'.length = σ.length → Q σ' H
theorem pg_weak {X : Cx} {e : Expr} {t t' : TG} (h : PG X e t) (w : ∀ v σ H Q, t' v σ H Q → t v σ H Q) : PG X e t' := ⟨fun pins s σ H v u Q I r q => h.run pins s σ H v u Q I r (w v σ H Q q)⟩
theorem pgs_weak {X : Cx} {e : List Expr} {t t' : TGs} (h : PGs X e t) (w : ∀ v σ H Q, t' v σ H Q → t v σ H Q) : PGs X e t' := ⟨fun pins s σ H v u Q I r q => h.run pins s σ H v u Q I r (w v σ H Q q)⟩
theorem targ_of {e : Expr} {es : List Expr} {env : Env} (h : nstar e = true) : assignEach (e :: es) env = (false, PySem.assign e env) :: assignEach es env := by
  cases e <;> first
    | rfl
    | cases h
section
variable {W : Wo} {wx : WX} {X : Cx} {nm : Nm} {t : Tbl} {k : Nat} {N : List Str} {sc ws : Scope}
theorem Cok.locW (C : Cok W nm t k wx N sc ws X) {x : Str} (h : locB ws x = true) : Loc X.env.scope x ∧ (X.fn x = true ∨ X.env.scope.names.lookup x = some .local) := C.wr x h
mutual
theorem z_tg (C : Cok W nm t k wx N sc ws X) : ∀ (e : Expr) (tg : Tg), chkTg N ws e tg = true → PG X e (tG W tg)
  | e, .v i, h => by
    cases e with
    | Name x p =>
      simp only [chkTg, Bool.and_eq_true, decide_eq_true_eq] at h
      obtain ⟨h1, h2⟩ := h
      obtain ⟨l1, l2⟩ := C.locW h2
      refine pg_weak (pg_name (by rw [C.eN]; exact C.nd) (by rw [C.eN]; exact h1) l1 l2) fun v σ H Q q => ?_
      obtain ⟨G, O, s, d, z, rfl, r, rd, ea, q⟩ := q
      simp only [assign] at ea
      split at ea
      · rename_i hi
        cases ea
        refine q _ _ (r.put hi rd) frm_put (fun j hj => ?_) (by simp)
        simp only [tgv, List.mem_singleton] at hj
        rw [List.getElem?_set_ne (Ne.symm hj)]
      · cases ea
    | _ => cases h
  | e, .tup ts, h => by
    cases e with
    | Tuple es kk p =>
      have h : chkTgs N ws es ts = true := h
      obtain ⟨hp, hl⟩ := z_tgs C es ts h
      have hn := tgs_len es ts h
      refine pg_weak (pg_tup C.calm hp (n := es.length) (tgs_env es ts h X.env).1 (tgs_env es ts h X.env).2) fun v σ H Q q => ?_
      obtain ⟨G, O, s, d, z, rfl, r, rd, ea, q⟩ := q
      simp only [assign] at ea
      cases d with
      | tup ds =>
        obtain ⟨a, vs, rfl, h1, h2⟩ := repw_tup rd.w
        refine ⟨a, vs, rfl, by rw [← C.eK]; exact h1, ?_, G, O, s, ds, z, rfl, r, h2, ea, q⟩
        rw [h2.len, ← hn]
        exact (assigns_len ea).symm
      | _ => cases ea
    | _ => cases h
theorem z_tgs (C : Cok W nm t k wx N sc ws X) : ∀ (es : List Expr) (ts : List Tg), chkTgs N ws es ts = true → PGs X es (tGs W ts) ∧ True
  | [], [], h => by
    refine ⟨pgs_weak pgs_nil fun v σ H Q q => ?_, trivial⟩
    obtain ⟨G, O, s, ds, z, rfl, r, rd, ea, q⟩ := q
    cases ds with
    | nil =>
      simp only [assigns] at ea
      cases ea
      refine ⟨by simpa only [Reps] using rd, q σ O r (.refl G _) (fun _ _ => rfl) rfl⟩
    | cons d ds => simp only [assigns] at ea; cases ea
  | e :: es, t' :: ts, h => by
    simp only [chkTgs, Bool.and_eq_true] at h
    obtain ⟨⟨h1, h2⟩, h3⟩ := h
    refine ⟨pgs_weak (pgs_cons (z_tg C e t' h1) (z_tgs C es ts h3).1 (by rw [targ_of h2]; rfl)) fun v σ H Q q => ?_, trivial⟩
    obtain ⟨G, O, s, ds, z, rfl, r, rd, ea, q⟩ := q
    cases ds with
    | nil => simp only [assigns] at ea; cases ea
    | cons d ds =>
      simp only [Reps] at rd
      obtain ⟨v, vr, rfl, r1, r2⟩ := rd
      simp only [assigns] at ea
      cases e1 : assign t' d s.σ with
      | none => rw [e1] at ea; cases ea
      | some z1 =>
        rw [e1] at ea
        refine ⟨v, vr, rfl, G, O, s, d, z1, rfl, r, r1, e1, fun σ1 O1 s1 f1 n1 l1 => ?_⟩
        refine ⟨G, O1, { s with σ := z1 }, ds, z, rfl, s1, r2, ea, fun σ2 O2 s2 f2 n2 l2 => ?_⟩
        refine q σ2 O2 s2 (f1.trans f2) (fun j hj => ?_) (l2.trans l1)
        simp only [tgvs, List.mem_append, not_or] at hj
        rw [n2 j hj.2, n1 j hj.1]
  | [], _ :: _, h => by cases h
  | _ :: _, [], h => by cases h
theorem tgs_len : ∀ (es : List Expr) (ts : List Tg), chkTgs N ws es ts = true → ts.length = es.length
  | [], [], h => rfl
  | e :: es, t' :: ts, h => by
    simp only [chkTgs, Bool.and_eq_true] at h
    simp only [List.length_cons, tgs_len es ts h.2]
  | [], _ :: _, h => by cases h
  | _ :: _, [], h => by cases h
theorem tgs_env : ∀ (es : List Expr) (ts : List Tg), chkTgs N ws es ts = true → ∀ env, (assignEach es env).length = es.length ∧ (assignEach es env).findIdx? (·.1) = none
  | [], [], h, env => ⟨rfl, rfl⟩
  | e :: es, t' :: ts, h, env => by
    simp only [chkTgs, Bool.and_eq_true] at h
    obtain ⟨h1, h2⟩ := tgs_env es ts h.2 env
    rw [targ_of h.1.2]
    refine ⟨by simp [h1], ?_⟩
    simp [List.findIdx?_cons, h2]
  | [], _ :: _, h, _ => by cases h
  | _ :: _, [], h, _ => by cases h
theorem assigns_len : ∀ {ts : List Tg} {ds : List D} {σ z : List Slot}, assigns ts ds σ = some z → ts.length = ds.length
  | [], [], _, _, h => rfl
  | t' :: ts, d :: ds, σ, z, h => by
    simp only [assigns] at h
    split at h
    · simp only [List.length_cons, assigns_len h]
    · cases h
  | [], _ :: _, _, _, h => by simp [assigns] at h
  | _ :: _, [], _, _, h => by simp [assigns] at h
end
end
end Z

set_option Elab.async false
set_option linter.all false
set_option maxRecDepth 100000
set_option maxHeartbeats 2000000
set_option autoImplicit false
/-! ZSnd6: what a loop walks. -/
namespace Z
open PySem PySem.Spec PyProof.Rows L2
structure JOk (W : Wo) (G : Gh) (ds : List D) (J : L2.It) : Prop where
  go : ∀ (G' : Gh) (i : Nat), Keep G G' → i < ds.length → J.go i G'.H
  yld : ∀ (G' : Gh) (i : Nat) (d : D) (x : V) (H' : Hp), Keep G G' → Dom G' → ds[i]? = some d → J.yld i G'.H x H' → ∃ G2 : Gh, G2.H = H' ∧ Ext G' G2 ∧ Rep W G2 d x
  stop : ∀ (G' : Gh) (i : Nat), Keep G G' → ds.length ≤ i → J.stop i G'.H
def RJ (W : Wo) (G : Gh) (O : List (Option Addr)) (G' : Gh) (O' : List (Option Addr)) (_ : Sta) (ds : List D) (J : L2.It) : Prop := JOk W G' ds J
theorem mono_RJ {W : Wo} : Mono (RJ W) := fun _ _ _ _ _ _ _ _ _ _ h => h
abbrev tI (W : Wo) (wx : WX) (f : Sta → Res (List D)) : TI := tZ W wx (fun _ => RJ W) f
section
variable {W : Wo} {G : Gh} {K : PySem.W.Frag}
theorem j_list {a : Addr} {ds : List D} {vs : List V} (hf : G.F a) (hH : G.H a = some (.lst vs)) (r : Reps W G ds vs) : JOk W G ds (Itl K a) := by
  have st : ∀ G', Keep G G' → SqL K G'.H a vs := fun G' k => .inl (.inl ((k.fz a hf).2.trans hH))
  refine ⟨fun G' i k hi => ?_, fun G' i d x H' k dm e y => ?_, fun G' i k hi => ⟨vs, st G' k, by rw [r.len]; exact hi⟩⟩
  · exact ⟨vs, vs[i]'(by rw [r.len]; exact hi), st G' k, List.getElem?_eq_getElem _⟩
  · obtain ⟨rfl, y⟩ := y
    have q := y vs (st G' k)
    obtain ⟨v, h1, h2⟩ := r.get e
    rw [q] at h1; cases h1
    exact ⟨G', rfl, .refl G', Rep.keep k d x h2⟩
theorem j_tup {a : Addr} {ds : List D} {vs : List V} (hH : SqT K G.H a vs) (hK : W.K = K) (r : Reps W G ds vs) : JOk W G ds (Itt K a) := by
  subst hK
  have st : ∀ G', Keep G G' → SqT W.K G'.H a vs := fun G' k => sqT_keep k hH
  refine ⟨fun G' i k hi => ?_, fun G' i d x H' k dm e y => ?_, fun G' i k hi => ⟨vs, st G' k, by rw [r.len]; exact hi⟩⟩
  · exact ⟨vs, vs[i]'(by rw [r.len]; exact hi), st G' k, List.getElem?_eq_getElem _⟩
  · obtain ⟨rfl, y⟩ := y
    have q := y vs (st G' k)
    obtain ⟨v, h1, h2⟩ := r.get e
    rw [q] at h1; cases h1
    exact ⟨G', rfl, .refl G', Rep.keep k d x h2⟩
theorem j_str {x : List Nat} (h : TxtOk x) : JOk W G (x.map fun c => .str [c]) (Its (toS x)) := by
  have sz : (toS x).cps.size = x.length := by simp [toS]
  refine ⟨fun G' i k hi => ?_, fun G' i d v H' k dm e y => ?_, fun G' i k hi => ?_⟩
  · show i < (toS x).cps.size
    rw [sz]; simpa using hi
  · obtain ⟨rfl, c, hc, rfl⟩ := y
    have hc : x[i]? = some c := by simpa [toS] using hc
    rw [List.getElem?_map, hc] at e
    cases e
    refine ⟨G', rfl, .refl G', rep_str ⟨by show 1 ≤ LIM; decide, fun c' hc' => ?_⟩⟩
    rw [List.mem_singleton] at hc'
    subst hc'
    exact h.2 _ (List.mem_of_getElem? hc)
  · show (toS x).cps.size ≤ i
    rw [sz]; simpa using hi
theorem range_len (lo : Int) : ∀ n, (rangeL lo n).length = n
  | 0 => rfl
  | n + 1 => by simp only [rangeL, List.length_cons, range_len (lo + 1) n]
theorem range_get : ∀ (n : Nat) (lo : Int) (i : Nat) (d : D), (rangeL lo n)[i]? = some d → d = .int (lo + i)
  | 0, _, _, _, h => by simp [rangeL] at h
  | n + 1, lo, 0, d, h => by
    simp [rangeL] at h
    simp [← h]
  | n + 1, lo, i + 1, d, h => by
    have := range_get n (lo + 1) i d (by simpa [rangeL] using h)
    rw [this]
    congr 1
    omega
theorem j_range {lo : Int} {n : Nat} : JOk W G (rangeL lo n) (Itr lo n) := by
  refine ⟨fun G' i k hi => ?_, fun G' i d v H' k dm e y => ?_, fun G' i k hi => ?_⟩
  · show i < n
    rw [range_len] at hi; exact hi
  · obtain ⟨rfl, rfl⟩ := y
    have := range_get n lo i d e
    subst this
    exact ⟨G', rfl, .refl G', rep_int⟩
  · show n ≤ i
    rw [range_len] at hi; exact hi
theorem rangeS_len (c : Int) : ∀ (n : Nat) (lo : Int), (rangeS lo c n).length = n
  | 0, _ => rfl
  | n + 1, lo => by simp only [rangeS, List.length_cons, rangeS_len c n]
theorem rangeS_get (c : Int) : ∀ (n : Nat) (lo : Int) (i : Nat) (d : D), (rangeS lo c n)[i]? = some d → d = .int (lo + i * c)
  | 0, _, _, _, h => by simp [rangeS] at h
  | n + 1, lo, 0, d, h => by
    simp [rangeS] at h
    simp [← h]
  | n + 1, lo, i + 1, d, h => by
    have := rangeS_get c n (lo + c) i d (by simpa [rangeS] using h)
    rw [this]
    congr 1
    have : ((i + 1 : Nat) : Int) * c = i * c + c := by rw [Int.natCast_succ, Int.add_mul, Int.one_mul]
    omega
theorem j_rangeC {lo c : Int} {n : Nat} : JOk W G (rangeS lo c n) (Itc lo c n) := by
  refine ⟨fun G' i k hi => ?_, fun G' i d v H' k dm e y => ?_, fun G' i k hi => ?_⟩
  · show i < n
    rw [rangeS_len] at hi; exact hi
  · obtain ⟨rfl, rfl⟩ := y
    have := rangeS_get c n lo i d e
    subst this
    exact ⟨G', rfl, .refl G', rep_int⟩
  · show n ≤ i
    rw [rangeS_len] at hi; exact hi
theorem rgc_of {a b c : Int} (h1 : -(2 ^ 62) ≤ a) (h2 : a < 2 ^ 62) (h3 : -(2 ^ 62) ≤ b) (h4 : b < 2 ^ 62) (h5 : 0 < c) (h6 : c < 1073741824) : RgC a b c (stepsN a b c) := by
  have e : Builtin.Range.rangeSize a b c = (stepsN a b c : Nat) := by
    unfold Builtin.Range.rangeSize stepsN
    rw [if_pos h5]
    split
    · rename_i hab
      have : 0 ≤ (b - a - 1) / c := Int.ediv_nonneg (by omega) (by omega)
      omega
    · rfl
  have le : (stepsN a b c : Int) ≤ if a < b then b - a else 0 := by
    unfold stepsN
    split
    · rename_i hab
      have z1 : 0 ≤ (b - a - 1) / c := Int.ediv_nonneg (by omega) (by omega)
      have z2 : (b - a - 1) / c ≤ b - a - 1 := Int.ediv_le_self _ (by omega)
      omega
    · exact Int.le_refl _
  refine ⟨by omega, by omega, ?_, e⟩
  unfold Builtin.Range.small
  rw [e]
  have n0 : 0 ≤ (stepsN a b c : Int) := Int.natCast_nonneg _
  simp only [Builtin.Range.rangeFitsLong, Bool.and_eq_true, Bool.or_eq_true, decide_eq_true_eq, beq_iff_eq, show c > 0 from h5, if_true]
  split at le <;> omega
theorem enum_get : ∀ (ds : List D) (k : Int) (i : Nat) (e : D), (enumD k ds)[i]? = some e → ∃ d, ds[i]? = some d ∧ e = .tup [.int (k + i), d]
  | [], _, _, _, h => by simp [enumD] at h
  | d :: ds, k, 0, e, h => by
    simp [enumD] at h
    exact ⟨d, rfl, by simp [← h]⟩
  | d :: ds, k, i + 1, e, h => by
    obtain ⟨x, h1, h2⟩ := enum_get ds (k + 1) i e (by simpa [enumD] using h)
    refine ⟨x, by simpa using h1, ?_⟩
    rw [h2]
    have : k + 1 + (i : Int) = k + ((i + 1 : Nat) : Int) := by omega
    rw [this]
theorem enum_len : ∀ (ds : List D) (k : Int), (enumD k ds).length = ds.length
  | [], _ => rfl
  | d :: ds, k => by simp only [enumD, List.length_cons, enum_len ds]
theorem ext_tup {G' : Gh} {T : Addr} {o : HO} (h : G'.H T = none) : Ext G' ⟨upd G'.H T o, G'.F, G'.M⟩ := ext_new h
theorem rep_newT {G' : Gh} {T : Addr} {ds : List D} {vs : List V} (dom : Dom G') (h : G'.H T = none) (r : Reps W G' ds vs) : Rep W ⟨upd G'.H T (.tup vs), G'.F, G'.M⟩ (.tup ds) (.ref T) := by
  simp only [Rep]
  exact ⟨T, vs, rfl, .inl (.inl upd_same), Reps.keep ((ext_tup h).keep (W := W) dom) ds vs r⟩
theorem j_enum {a : Addr} {ds : List D} {vs : List V} (hf : G.F a) (hH : G.H a = some (.lst vs)) (r : Reps W G ds vs) : JOk W G (enumD 0 ds) (Ite K a) := by
  have st : ∀ G', Keep G G' → SqL K G'.H a vs := fun G' k => .inl (.inl ((k.fz a hf).2.trans hH))
  refine ⟨fun G' i k hi => ?_, fun G' i d x H' k dm e y => ?_, fun G' i k hi => ⟨vs, st G' k, by rw [r.len]; rw [enum_len] at hi; exact hi⟩⟩
  · rw [enum_len] at hi
    exact ⟨vs, vs[i]'(by rw [r.len]; exact hi), st G' k, List.getElem?_eq_getElem _⟩
  · obtain ⟨T, u, rfl, nT, rfl, y⟩ := y
    have q := y vs (st G' k)
    obtain ⟨d', e1, rfl⟩ := enum_get ds 0 i d e
    obtain ⟨v, h1, h2⟩ := r.get e1
    rw [q] at h1; cases h1
    refine ⟨_, rfl, ext_tup nT, rep_newT dm nT ?_⟩
    simp only [Reps]
    exact ⟨_, _, rfl, by rw [Int.zero_add]; exact rep_int, _, _, rfl, Rep.keep k _ _ h2, rfl⟩
theorem zip_get : ∀ (xs ys : List D) (i : Nat) (e : D), (zipD xs ys)[i]? = some e → ∃ x y, xs[i]? = some x ∧ ys[i]? = some y ∧ e = .tup [x, y]
  | x :: xs, y :: ys, 0, e, h => by
    simp [zipD] at h
    exact ⟨x, y, rfl, rfl, h.symm⟩
  | x :: xs, y :: ys, i + 1, e, h => by
    obtain ⟨a, b, h1, h2, h3⟩ := zip_get xs ys i e (by simpa [zipD] using h)
    exact ⟨a, b, by simpa using h1, by simpa using h2, h3⟩
  | [], _, _, _, h => by simp [zipD] at h
  | _ :: _, [], _, _, h => by simp [zipD] at h
theorem zip_len : ∀ (xs ys : List D), (zipD xs ys).length = min xs.length ys.length
  | x :: xs, y :: ys => by simp only [zipD, List.length_cons, zip_len xs ys]; omega
  | [], _ => by simp [zipD]
  | _ :: _, [] => by simp [zipD]
theorem j_zipL {a b : Addr} {xs ys : List D} {vs us : List V} (fa : G.F a) (fb : G.F b) (ha : G.H a = some (.lst vs)) (hb : G.H b = some (.lst us)) (ra : Reps W G xs vs) (rb : Reps W G ys us) : JOk W G (zipD xs ys) (Itz K a b) := by
  have sa : ∀ G', Keep G G' → SqL K G'.H a vs := fun G' k => .inl (.inl ((k.fz a fa).2.trans ha))
  have sb : ∀ G', Keep G G' → SqL K G'.H b us := fun G' k => .inl (.inl ((k.fz b fb).2.trans hb))
  refine ⟨fun G' i k hi => ?_, fun G' i d x H' k dm e y => ?_, fun G' i k hi => ?_⟩
  · rw [zip_len] at hi
    exact ⟨vs, us, vs[i]'(by rw [ra.len]; omega), us[i]'(by rw [rb.len]; omega), sa G' k, sb G' k, List.getElem?_eq_getElem _, List.getElem?_eq_getElem _⟩
  · obtain ⟨T, u, w, rfl, nT, rfl, y1, y2⟩ := y
    have q1 := y1 vs (sa G' k)
    have q2 := y2 us (sb G' k)
    obtain ⟨d1, d2, e1, e2, rfl⟩ := zip_get xs ys i d e
    obtain ⟨v, h1, h2⟩ := ra.get e1
    obtain ⟨v', h1', h2'⟩ := rb.get e2
    rw [q1] at h1; cases h1
    rw [q2] at h1'; cases h1'
    refine ⟨_, rfl, ext_tup nT, rep_newT dm nT ?_⟩
    simp only [Reps]
    exact ⟨_, _, rfl, Rep.keep k _ _ h2, _, _, rfl, Rep.keep k _ _ h2', rfl⟩
  · rw [zip_len] at hi
    refine ⟨vs, us, sa G' k, sb G' k, ?_⟩
    rw [ra.len, rb.len]
    omega
theorem j_zipT {a b : Addr} {xs ys : List D} {vs us : List V} (hK : W.K = K) (ha : SqT K G.H a vs) (hb : SqT K G.H b us) (ra : Reps W G xs vs) (rb : Reps W G ys us) : JOk W G (zipD xs ys) (RZ.ItzT K a b) := by
  subst hK
  have sa : ∀ G', Keep G G' → SqT W.K G'.H a vs := fun G' k => sqT_keep k ha
  have sb : ∀ G', Keep G G' → SqT W.K G'.H b us := fun G' k => sqT_keep k hb
  refine ⟨fun G' i k hi => ?_, fun G' i d x H' k dm e y => ?_, fun G' i k hi => ?_⟩
  · rw [zip_len] at hi
    exact ⟨vs, us, vs[i]'(by rw [ra.len]; omega), us[i]'(by rw [rb.len]; omega), sa G' k, sb G' k, List.getElem?_eq_getElem _, List.getElem?_eq_getElem _⟩
  · obtain ⟨T, u, w, rfl, nT, rfl, y1, y2⟩ := y
    have q1 := y1 vs (sa G' k)
    have q2 := y2 us (sb G' k)
    obtain ⟨d1, d2, e1, e2, rfl⟩ := zip_get xs ys i d e
    obtain ⟨v, h1, h2⟩ := ra.get e1
    obtain ⟨v', h1', h2'⟩ := rb.get e2
    rw [q1] at h1; cases h1
    rw [q2] at h1'; cases h1'
    refine ⟨_, rfl, ext_tup nT, rep_newT dm nT ?_⟩
    simp only [Reps]
    exact ⟨_, _, rfl, Rep.keep k _ _ h2, _, _, rfl, Rep.keep k _ _ h2', rfl⟩
  · rw [zip_len] at hi
    refine ⟨vs, us, sa G' k, sb G' k, ?_⟩
    rw [ra.len, rb.len]
    omega
end

/-! ### the iterators -/
section
variable {W : Wo} {wx : WX} {X : Cx} {P : Prog} {nm : Nm} {t : Tbl} {k : Nat} {N : List Str} {sc ws : Scope} {tg : Expr}
theorem pi_weak {e : Expr} {t t' : TI} (h : PI X tg e t) (w : ∀ σ H Q, t' σ H Q → t σ H Q) : PI X tg e t' := ⟨fun pins s σ H Q I q => h.run pins s σ H Q I (w σ H Q q)⟩
theorem z_iseq (C : Cok W nm t k wx N sc ws X) {i : E} {e : Expr} (h : EOk W wx X P i e) : PI X tg e (tI W wx (evit P (.seq i))) := by
  refine ⟨fun pins s σ H R I hw => ?_⟩
  obtain ⟨G, O, z, e1, r, q⟩ := hw
  have q : tV W wx (ev P i) σ H (fun v H1 => ∃ (G1 : Gh) (ds : List D), G1.H = H1 ∧ (∃ d, Rep W G1 d v ∧ iterD d = some ds) ∧ ∀ J, JOk W G1 ds J → R J H1) := by
    refine ⟨G, O, z, e1, r, ?_⟩
    simp only [evit] at q
    refine Out.bind mono_RJ q fun a s1 _ x G1 O1 fr r1 rr q1 => ?_
    cases e2 : iterD a.2 with
    | none => rw [e2] at q1; exact q1.elim
    | some ds =>
      rw [e2] at q1
      exact ⟨G1, ds, rfl, ⟨a.2, rr, e2⟩, fun J hJ => Out.refl_ok (b := J) r1 q1 hJ⟩
  refine thn (h.pv.run pins s σ H _ I q) fun v s1 ⟨x, H1, I1, r1, q1⟩ => ?_
  obtain ⟨G1, ds, rfl, ⟨d, rd, ed⟩, q1⟩ := q1
  cases d with
  | lst es =>
    cases ed
    simp only [Rep] at rd
    obtain ⟨a, vs, rfl, hf, hH, rs⟩ := rd
    cases r1
    obtain ⟨its, rv, p, hz⟩ := I1.list (a := a) (.inl (.inl hH))
    refine wpAny_pyIter_list p.isList ?_
    refine ⟨s1.heap.objs.size, [s1.heap.objs.size], _, _, G1.H, rfl, I1.kept (t' := s1.toks) fun b o e => Heap.get?_push_of_some _ e, turn_list a _, ⟨_, Heap.get?_push_size _ rfl, rfl, rfl⟩, fun b hb => ?_, q1 _ (j_list hf hH rs)⟩
    have e : b = s1.heap.objs.size := by simpa using hb
    subst e
    exact I1.fpOk (Nat.le_refl _) (I1.hok.fresh (Nat.le_refl _))
  | tup es =>
    cases ed
    obtain ⟨a, vs, rfl, hH, rs⟩ := repw_tup rd.w
    cases r1
    have hH' : SqT X.K G1.H a vs := C.eK ▸ hH
    obtain ⟨its, rv, p, hz⟩ := I1.tuple hH'
    refine wpAny_pyIter_tuple (show s1.heap.IsTuple a its.toArray from p) ?_
    refine ⟨s1.heap.objs.size, [s1.heap.objs.size], _, _, G1.H, rfl, I1.kept (t' := s1.toks) fun b o e => Heap.get?_push_of_some _ e, turn_tuple a _, ⟨_, Heap.get?_push_size _ rfl, rfl, rfl⟩, fun b hb => ?_, q1 _ (j_tup hH' C.eK rs)⟩
    have e : b = s1.heap.objs.size := by simpa using hb
    subst e
    exact I1.fpOk (Nat.le_refl _) (I1.hok.fresh (Nat.le_refl _))
  | str y =>
    cases ed
    obtain ⟨rfl, ty⟩ := repw_str rd.w
    obtain ⟨t, rfl⟩ := r1
    have q := q1 _ (j_str ty)
    cases ha : (toS y).cps.all (· < 128)
    · exact wpAny_pyIter_wide ha (pi_one (tk := s1.toks) I1 _ (turn_str _ (toS y) t "str_iterator" (.inr rfl)) ⟨_, Heap.get?_push_size _ rfl, rfl, rfl⟩ q)
    · exact wpAny_pyIter_ascii ha (pi_one (tk := s1.toks) I1 _ (turn_str _ (toS y) t "str_ascii_iterator" (.inl rfl)) ⟨_, Heap.get?_push_size _ rfl, rfl, rfl⟩ q)
  | _ => cases ed
theorem rgShape_of (C : Cok W nm t k wx N sc ws X) {n : String} (hn : n ∈ bltNames) {e : Expr} {es : List Expr} (h : rgShape sc n e = some es) : ∃ p pos, e = .Call (.Name (Str.ofString n) p) es [] pos ∧ Gl X (Str.ofString n) ∧ X.mg (Str.ofString n) = none := by
  unfold rgShape at h
  split at h
  · split at h
    · rename_i f es' pos hb
      cases h
      obtain ⟨q, rfl, hg, hm⟩ := C.blt1 hb hn
      exact ⟨q, pos, rfl, hg, hm⟩
    · cases h
  · cases h
theorem evs_len : ∀ {is : List E} {s s1 : Sta} {ds : List D}, evs P is s = .ok ds s1 → ds.length = is.length
  | [], s, s1, ds, h => by cases h; rfl
  | i :: is, s, s1, ds, h => by
    simp only [evs] at h
    cases e : ev P i s with
    | stuck => rw [e] at h; cases h
    | exn y s2 => rw [e] at h; cases h
    | ok a s2 =>
      rw [e] at h
      simp only [Res.bind] at h
      cases e2 : evs P is s2 with
      | stuck => rw [e2] at h; cases h
      | exn y s3 => rw [e2] at h; cases h
      | ok b s3 =>
        rw [e2] at h
        cases h
        simp only [List.length_cons, evs_len e2]
theorem z_irng (C : Cok W nm t k wx N sc ws X) {e : Expr} {es : List Expr} {is : List E} (hs : rgShape sc "range" e = some es) (h : EOks W wx X P is es) (hl2 : es.length ≤ 3) : PI X tg e (tI W wx (evit P (.rng is))) := by
  obtain ⟨p, pos, rfl, hg, hm⟩ := rgShape_of C (by decide) hs
  have L : RLIM = 2 ^ 62 := by decide
  have main : ∀ σ H Q, tI W wx (evit P (.rng is)) σ H Q → tVs W wx (evs P is) σ H (fun vs H1 => ∃ ds ns, rangeD ds = some ns ∧ (∃ G1 : Gh, G1.H = H1 ∧ Reps W G1 ds vs ∧ ∀ J, JOk W G1 ns J → Q J H1)) := fun σ H Q q => by
    obtain ⟨G, O, z, e1, r, q⟩ := q
    refine ⟨G, O, z, e1, r, ?_⟩
    simp only [evit] at q
    refine Out.bind mono_RJ q fun ds s1 _ vs G1 O1 fr r1 rr q1 => ?_
    cases e2 : rangeD ds with
    | none => rw [e2] at q1; exact q1.elim
    | some ns =>
      rw [e2] at q1
      exact ⟨ds, ns, e2, G1, rfl, rr, fun J hJ => Out.refl_ok (b := J) r1 q1 hJ⟩
  cases h with
  | nil =>
    refine ⟨fun pins s σ H R I hw => ?_⟩
    obtain ⟨G, O, z, rfl, r, q⟩ := hw
    exact q.elim
  | cons h1 h2 =>
    cases h2 with
    | nil =>
      rename_i i a
      refine pi_weak (pi_range1 (ta := tVs W wx (evs P [i])) hg hm (EOks.cons h1 .nil).pa (by rw [star_of h1.ns]; rfl)) fun σ H Q q => ?_
      obtain ⟨G, O, z, e1, r, q⟩ := main σ H Q q
      refine ⟨G, O, z, e1, r, ?_⟩
      cases e3 : evs P [i] z with
      | stuck => rw [e3] at q; exact q
      | exn y s1 => rw [e3] at q; exact q
      | ok ds s1 =>
        rw [e3] at q
        intro vs G' O' fr sr rr
        obtain ⟨ds', ns, e4, G1, e5, rr', k'⟩ := q vs G' O' fr sr rr
        match ds', e4, rr' with
        | [.int j], e4, rr' =>
          simp only [rangeD] at e4
          split at e4
          · rename_i hj
            cases e4
            obtain ⟨v, rfl, rv⟩ := reps_one rr'
            cases repw_int rv.w
            exact ⟨j, rfl, by omega, by omega, k' _ j_range⟩
          · cases e4
        | [.int j, .int l], e4, rr' =>
          exfalso
          obtain ⟨v, u, rfl, _, _⟩ := reps_two rr'
          have l1 : ds.length = 1 := evs_len e3
          have l2 := Reps.len (show Reps W G' ds [v, u] from rr)
          simp at l2; omega
        | [.int j, .int l, .int m], e4, rr' =>
          exfalso
          have l1 : ds.length = 1 := evs_len e3
          have l2 := Reps.len (show Reps W G' ds vs from rr)
          have l3 := Reps.len rr'
          simp at l3; omega
    | cons h2 h3 =>
      cases h3 with
      | nil =>
        rename_i i a j b
        refine pi_weak (pi_range2 (ta := tVs W wx (evs P [i, j])) hg hm (EOks.cons h1 (.cons h2 .nil)).pa (by rw [star_of h1.ns, star_of h2.ns]; rfl) (by rw [star_of h2.ns]; rfl)) fun σ H Q q => ?_
        obtain ⟨G, O, z, e1, r, q⟩ := main σ H Q q
        refine ⟨G, O, z, e1, r, ?_⟩
        cases e3 : evs P [i, j] z with
        | stuck => rw [e3] at q; exact q
        | exn y s1 => rw [e3] at q; exact q
        | ok ds s1 =>
          rw [e3] at q
          intro vs G' O' fr sr rr
          obtain ⟨ds', ns, e4, G1, e5, rr', k'⟩ := q vs G' O' fr sr rr
          match ds', e4, rr' with
          | [.int j'], e4, rr' =>
            exfalso
            obtain ⟨v, rfl, _⟩ := reps_one rr'
            have l1 : ds.length = 2 := evs_len e3
            have l2 := Reps.len (show Reps W G' ds [v] from rr)
            simp at l2; omega
          | [.int j', .int l], e4, rr' =>
            simp only [rangeD] at e4
            split at e4
            · rename_i hj
              cases e4
              obtain ⟨v, u, rfl, rv, ru⟩ := reps_two rr'
              cases repw_int rv.w
              cases repw_int ru.w
              exact ⟨j', l, rfl, by omega, k' _ j_range⟩
            · cases e4
          | [.int j', .int l, .int m], e4, rr' =>
            exfalso
            have l1 : ds.length = 2 := evs_len e3
            have l2 := Reps.len (show Reps W G' ds vs from rr)
            have l3 := Reps.len rr'
            simp at l3; omega
      | cons h3 h4 =>
        cases h4 with
        | cons h4 h5 => simp at hl2
        | nil =>
          rename_i i a j b l c
          refine pi_weak (pi_range3 (ta := tVs W wx (evs P [i, j, l])) hg hm (EOks.cons h1 (.cons h2 (.cons h3 .nil))).pa (star_of h1.ns) (noStar (EOks.cons h2 (.cons h3 .nil)) _ _)) fun σ H Q q => ?_
          obtain ⟨G, O, z, e1, r, q⟩ := main σ H Q q
          refine ⟨G, O, z, e1, r, ?_⟩
          cases e3 : evs P [i, j, l] z with
          | stuck => rw [e3] at q; exact q
          | exn y s1 => rw [e3] at q; exact q
          | ok ds s1 =>
            rw [e3] at q
            intro vs G' O' fr sr rr
            obtain ⟨ds', ns, e4, G1, e5, rr', k'⟩ := q vs G' O' fr sr rr
            have l1 : ds.length = 3 := evs_len e3
            have l2 := Reps.len (show Reps W G' ds vs from rr)
            have l3 := Reps.len rr'
            match ds', e4, rr', l3 with
            | [.int x, .int y, .int u], e4, rr', _ =>
              simp only [rangeD] at e4
              split at e4
              · rename_i hj
                cases e4
                simp only [Reps] at rr'
                obtain ⟨v, _, rfl, rv, v2, _, rfl, rv2, v3, _, rfl, rv3, rfl⟩ := rr'
                cases repw_int rv.w
                cases repw_int rv2.w
                cases repw_int rv3.w
                exact ⟨x, y, u, _, rfl, rgc_of (by omega) (by omega) (by omega) (by omega) hj.2.2.2.2.1 hj.2.2.2.2.2, k' _ j_rangeC⟩
              · cases e4
            | [.int x], _, _, l3 => simp at l3; omega
            | [.int x, .int y], _, _, l3 => simp at l3; omega
theorem z_ienum (C : Cok W nm t k wx N sc ws X) {e : Expr} {a : Expr} {i : E} (hs : rgShape sc "enumerate" e = some [a]) (h : EOk W wx X P i a) (ht : ∃ elts kk pos, tg = .Tuple elts kk pos) : PI X tg e (tI W wx (evit P (.enum i))) := by
  obtain ⟨p, pos, rfl, hg, hm⟩ := rgShape_of C (by decide) hs
  obtain ⟨elts, kk, tpos, rfl⟩ := ht
  refine pi_weak (pi_enum (ta := tCons (tV W wx (ev P i)) tNil) hg hm (pa_cons h.pv pa_nil (star_of h.ns)) (by rw [star_of h.ns]; rfl)) fun σ H Q q => ?_
  obtain ⟨G, O, z, e1, r, q⟩ := q
  refine ⟨G, O, z, e1, r, ?_⟩
  simp only [evit] at q
  refine Out.bind mono_RJ q fun a s1 _ x G1 O1 fr r1 rr q1 => ?_
  obtain ⟨o, d⟩ := a
  cases d with
  | lst ds =>
    obtain ⟨a, vs, rfl, hf, hH, rs⟩ := (show Rep W G1 (.lst ds) x from rr)
    exact ⟨a, vs, rfl, .inl (.inl hH), Out.refl_ok r1 q1 (j_enum hf hH rs)⟩
  | _ => exact q1.elim
theorem z_izip (C : Cok W nm t k wx N sc ws X) {e : Expr} {a b : Expr} {i j : E} (hs : rgShape sc "zip" e = some [a, b]) (h : EOk W wx X P i a) (h' : EOk W wx X P j b) (ht : ∃ elts kk pos, tg = .Tuple elts kk pos) : PI X tg e (tI W wx (evit P (.zip i j))) := by
  obtain ⟨p, pos, rfl, hg, hm⟩ := rgShape_of C (by decide) hs
  obtain ⟨elts, kk, tpos, rfl⟩ := ht
  refine pi_weak (RZ.pi_zipA (ta := tCons (tV W wx (ev P i)) (tCons (tV W wx (ev P j)) tNil)) hg hm (pa_cons h.pv (pa_cons h'.pv pa_nil (star_of h'.ns)) (star_of h.ns)) (by rw [star_of h.ns]) (by rw [star_of h'.ns]; rfl)) fun σ H Q q => ?_
  obtain ⟨G, O, z, e1, r, q⟩ := q
  refine ⟨G, O, z, e1, r, ?_⟩
  simp only [evit] at q
  refine Out.bind mono_RJ q fun a s1 _ x G1 O1 fr r1 rr q1 => ⟨G1, O1, s1, rfl, r1, ?_⟩
  refine Out.bind mono_RJ q1 fun b s2 _ y G2 O2 fr2 r2 rr2 q2 => ?_
  obtain ⟨o, d⟩ := a
  obtain ⟨o', d'⟩ := b
  have rr : Rep W G2 d x := Rep.keep fr2.keep _ _ rr
  have rr2 : Rep W G2 d' y := rr2
  cases d with
  | lst xs =>
    cases d' with
    | lst ys =>
      obtain ⟨a, vs, rfl, hf, hH, rs⟩ := rr
      obtain ⟨b, us, rfl, hf', hH', rs'⟩ := rr2
      exact ⟨a, b, vs, us, rfl, .inl ⟨.inl (.inl hH), .inl (.inl hH'), Out.refl_ok r2 q2 (j_zipL hf hf' hH hH' rs rs')⟩⟩
    | _ => exact q2.elim
  | tup xs =>
    cases d' with
    | tup ys =>
      obtain ⟨a, vs, rfl, hH, rs⟩ := repw_tup rr.w
      obtain ⟨b, us, rfl, hH', rs'⟩ := repw_tup rr2.w
      have hH : SqT X.K G2.H a vs := C.eK ▸ hH
      have hH' : SqT X.K G2.H b us := C.eK ▸ hH'
      exact ⟨a, b, vs, us, rfl, .inr ⟨hH, hH', Out.refl_ok r2 q2 (j_zipT C.eK hH hH' rs rs')⟩⟩
    | _ => exact q2.elim
  | _ => exact q2.elim
end
end Z

set_option Elab.async false
set_option linter.all false
set_option maxRecDepth 100000
set_option maxHeartbeats 2000000
set_option autoImplicit false
/-! ZSnd7: comprehensions. -/
namespace Z
open PySem PySem.Spec PyProof.Rows L2
/-! ### an object at the side -/
structure Side (G : Gh) (O : List (Option Addr)) (D : Addr) (o : HO) : Prop where
  h : G.H D = some o
  f : ¬ G.F D
  o : D ∉ ow O
  m : D ∉ G.M
section
variable {W : Wo} {G G' G1 : Gh} {s : Sta} {σ : L2.St} {O O' O1 : List (Option Addr)} {D : Addr} {o o' : HO}
theorem Side.frm (h : Side G O D o) (f : Frm G (ow O) G' (ow O')) : Side G' O' D o := by
  refine ⟨f.rest D o h.h h.o h.m, fun z => ?_, fun z => ?_, fun z => ?_⟩
  · rcases f.fz D z with z | z | z
    · exact h.f z
    · exact h.o z
    · rw [h.h] at z; cases z
  · rcases f.ow D z with z | z
    · exact h.o z
    · rw [h.h] at z; cases z
  · rcases f.mm D z with z | z | z
    · exact h.m z
    · exact h.o z
    · rw [h.h] at z; cases z
theorem Side.keep (h : Side G O D o) (hi : imm o = false) : Keep G ⟨upd G.H D o', G.F, G.M⟩ := by
  refine ⟨fun b x e i => ?_, fun b f => ⟨f, ?_⟩, fun _ _ e => e⟩
  · show upd G.H D o' b = some x
    rw [upd_ne]
    · exact e
    · rintro rfl
      rw [h.h] at e; cases e
      rw [hi] at i; cases i
  · show upd G.H D o' b = G.H b
    rw [upd_ne]
    rintro rfl
    exact h.f f
theorem StRep.side (r : StRep W G s σ O) (h : Side G O D o) (hi : imm o = false) : StRep W ⟨upd G.H D o', G.F, G.M⟩ s σ O := by
  have k : Keep G ⟨upd G.H D o', G.F, G.M⟩ := h.keep hi
  have other : ∀ {c : Cell} {b : Addr}, b ≠ D → CRep W G c b → CRep W ⟨upd G.H D o', G.F, G.M⟩ c b := fun {c b} ne z => z.keep k (upd_ne ne)
  refine ⟨r.len, r.lenO, fun j x hx => ?_, r.lenM, fun n c hc => ?_, r.nd, fun b f => ?_⟩
  · obtain ⟨v, oo, e1, e2, e3⟩ := r.slots j x hx
    refine ⟨v, oo, e1, e2, ?_⟩
    cases x with
    | no => exact e3
    | sh d => obtain ⟨z, y, z1, z2⟩ := e3; exact ⟨z, y, z1, Rep.keep k d y z2⟩
    | own c2 =>
      obtain ⟨b, z1, z2, z3, z4⟩ := e3
      refine ⟨b, z1, z2, other (fun z => ?_) z3, z4⟩
      subst z
      exact h.o (List.mem_filterMap.mpr ⟨some b, by rw [← z1]; exact List.mem_of_getElem? e2, rfl⟩)
  · obtain ⟨b, z1, z2, z3⟩ := r.cells n c hc
    refine ⟨b, z1, other (fun z => ?_) z2, z3⟩
    subst z
    exact h.m (List.mem_of_getElem? z1)
  · obtain ⟨x, e⟩ := r.dom b f
    refine ⟨x, ?_⟩
    show upd G.H D o' b = some x
    rw [upd_ne]
    · exact e
    · rintro rfl; exact h.f f
theorem Frm.side (f : Frm G1 (Z.ow O1) G (Z.ow O)) (dm : Dom G1) (h0 : G1.H D = none) : Frm G1 (Z.ow O1) ⟨upd G.H D o', G.F, G.M⟩ (Z.ow O) := by
  have ne : ∀ {b : Addr} {x : HO}, G1.H b = some x → b ≠ D := fun {b x} e z => by subst z; rw [h0] at e; cases e
  refine ⟨⟨fun b x e i => ?_, fun b z => ⟨(f.keep.fz b z).1, ?_⟩, f.keep.mm⟩, fun b x e n1 n2 => ?_, f.fz, f.ow, f.mm, fun b x e => ?_⟩
  · exact (upd_ne (ne e)).trans (f.keep.im b x e i)
  · obtain ⟨x, e⟩ := dm b z
    exact (upd_ne (ne e)).trans (f.keep.fz b z).2
  · exact (upd_ne (ne e)).trans (f.rest b x e n1 n2)
  · obtain ⟨y, hy⟩ := f.dm b x e
    exact ⟨y, (upd_ne (ne e)).trans hy⟩
end
/-! ### names forgotten and back -/
def wipeO (O : List (Option Addr)) : List Nat → List (Option Addr)
  | [] => O
  | v :: vs => (wipeO O vs).set v none
section
variable {W : Wo} {G G' G1 : Gh} {s : Sta} {σ : L2.St} {O O' O1 : List (Option Addr)}
theorem wipeO_ow : ∀ {vs : List Nat} {a : Addr}, a ∈ ow (wipeO O vs) → a ∈ ow O
  | [], _, h => h
  | v :: vs, a, h => wipeO_ow (vs := vs) (ow_set (a := a) h)
theorem StRep.wipe (r : StRep W G s σ O) : ∀ vs : List Nat, StRep W G { s with σ := wipeZ s.σ vs } (L2.wipe σ vs) (wipeO O vs)
  | [] => r
  | v :: vs => (StRep.wipe r vs).drop
theorem frm_wipe {vs : List Nat} : Frm G (ow O) G (ow (wipeO O vs)) := ⟨.refl G, fun _ _ e _ _ => e, fun _ h => .inl h, fun a h => .inl (wipeO_ow (a := a) h), fun _ h => .inl h, fun _ x e => ⟨x, e⟩⟩
theorem wipe_out : ∀ {vs : List Nat} {j : Nat}, j ∉ vs → (L2.wipe σ vs)[j]? = σ[j]?
  | [], _, _ => rfl
  | v :: vs, j, h => by
    simp only [List.mem_cons, not_or] at h
    show ((L2.wipe σ vs).set v none)[j]? = _
    rw [List.getElem?_set_ne (Ne.symm h.1), wipe_out h.2]
theorem wipe_in : ∀ {vs : List Nat} {j : Nat}, j ∈ vs → j < σ.length → (L2.wipe σ vs)[j]? = some none
  | v :: vs, j, h, hl => by
    show ((L2.wipe σ vs).set v none)[j]? = _
    by_cases e : j = v
    · subst e
      rw [List.getElem?_set_self (by rw [wipe_length]; exact hl)]
    · rw [List.getElem?_set_ne (Ne.symm e)]
      exact wipe_in ((List.mem_cons.mp h).resolve_left e) hl
theorem wipe_eq {σ' : L2.St} {vs : List Nat} (hl : σ'.length = σ.length) (h : ∀ j, j ∉ vs → σ'[j]? = (L2.wipe σ vs)[j]?) : L2.wipe σ' vs = L2.wipe σ vs := by
  apply List.ext_getElem?
  intro j
  by_cases hj : j ∈ vs
  · by_cases hlt : j < σ.length
    · rw [wipe_in hj hlt, wipe_in hj (by rw [hl]; exact hlt)]
    · rw [List.getElem?_eq_none (by rw [wipe_length]; omega), List.getElem?_eq_none (by rw [wipe_length]; omega)]
  · rw [wipe_out hj, h j hj]
theorem wipeO_out : ∀ {vs : List Nat} {j : Nat}, j ∉ vs → (wipeO O vs)[j]? = O[j]?
  | [], _, _ => rfl
  | v :: vs, j, h => by
    simp only [List.mem_cons, not_or] at h
    show ((wipeO O vs).set v none)[j]? = _
    rw [List.getElem?_set_ne (Ne.symm h.1), wipeO_out h.2]
theorem wipeO_length (O : List (Option Addr)) : ∀ vs : List Nat, (wipeO O vs).length = O.length
  | [] => rfl
  | v :: vs => by show ((wipeO O vs).set v none).length = _; rw [List.length_set, wipeO_length O vs]
theorem wipeO_in : ∀ {vs : List Nat} {j : Nat}, j ∈ vs → j < O.length → (wipeO O vs)[j]? = some none
  | v :: vs, j, h, hl => by
    show ((wipeO O vs).set v none)[j]? = _
    by_cases e : j = v
    · subst e
      rw [List.getElem?_set_self (by rw [wipeO_length]; exact hl)]
    · rw [List.getElem?_set_ne (Ne.symm e)]
      exact wipeO_in ((List.mem_cons.mp h).resolve_left e) hl
theorem wipeO_nodup : ∀ {vs : List Nat}, (ow O).Nodup → (ow (wipeO O vs)).Nodup
  | [], h => h
  | v :: vs, h => ow_nodup_set v (wipeO_nodup (vs := vs) h)
theorem backZ_length (z0 z : List Slot) : ∀ vs : List Nat, (backZ z0 z vs).length = z.length
  | [] => rfl
  | v :: vs => by show ((backZ z0 z vs).set v _).length = _; rw [List.length_set, backZ_length z0 z vs]
theorem backZ_out {z0 z : List Slot} : ∀ {vs : List Nat} {j : Nat}, j ∉ vs → (backZ z0 z vs)[j]? = z[j]?
  | [], _, _ => rfl
  | v :: vs, j, h => by
    simp only [List.mem_cons, not_or] at h
    show ((backZ z0 z vs).set v _)[j]? = _
    rw [List.getElem?_set_ne (Ne.symm h.1), backZ_out h.2]
theorem backZ_in {z0 z : List Slot} : ∀ {vs : List Nat} {j : Nat}, j ∈ vs → j < z.length → (backZ z0 z vs)[j]? = some (z0.getD j .no)
  | v :: vs, j, h, hl => by
    show ((backZ z0 z vs).set v _)[j]? = _
    by_cases e : j = v
    · subst e
      rw [List.getElem?_set_self (by rw [backZ_length]; exact hl)]
    · rw [List.getElem?_set_ne (Ne.symm e)]
      exact backZ_in ((List.mem_cons.mp h).resolve_left e) hl
theorem wipeZ_length (z : List Slot) : ∀ vs : List Nat, (wipeZ z vs).length = z.length
  | [] => rfl
  | v :: vs => by show ((wipeZ z vs).set v _).length = _; rw [List.length_set, wipeZ_length z vs]
theorem StRep.back {s1 s' : Sta} {vs : List Nat} (r1 : StRep W G1 s1 σ O1) (r : StRep W G' s' (L2.wipe σ vs) O') (k : Keep G1 G') (hs : ∀ v ∈ vs, isSh (s1.σ.getD v .no) = true) : StRep W G' { s' with σ := backZ s1.σ s'.σ vs } σ (wipeO O' vs) := by
  have hl : s'.σ.length = s1.σ.length := by rw [← r.len, wipe_length, r1.len]
  refine ⟨?_, ?_, fun j x hx => ?_, r.lenM, r.cells, ?_, r.dom⟩
  · show σ.length = (backZ s1.σ s'.σ vs).length
    rw [backZ_length, hl, r1.len]
  · show (wipeO O' vs).length = (backZ s1.σ s'.σ vs).length
    rw [backZ_length, wipeO_length, r.lenO]
  · have hx : (backZ s1.σ s'.σ vs)[j]? = some x := hx
    by_cases hj : j ∈ vs
    · have hlt : j < s'.σ.length := by
        have := (List.getElem?_eq_some_iff.mp hx).1
        rwa [backZ_length] at this
      rw [backZ_in hj hlt] at hx
      cases hx
      have e0 : s1.σ[j]? = some (s1.σ.getD j .no) := by
        rw [List.getD_eq_getElem?_getD]
        rw [List.getElem?_eq_getElem (by omega)]
        rfl
      obtain ⟨v, o, e1, e2, e3⟩ := r1.slots j _ e0
      refine ⟨v, none, e1, wipeO_in hj (by rw [r.lenO]; exact hlt), ?_⟩
      have hh := hs j hj
      cases q : s1.σ.getD j .no with
      | no => rfl
      | sh d =>
        rw [q] at e3
        obtain ⟨_, y, e4, e5⟩ := e3
        exact ⟨rfl, y, e4, Rep.keep k d y e5⟩
      | own c => rw [q] at hh; cases hh
    · rw [backZ_out hj] at hx
      obtain ⟨v, o, e1, e2, e3⟩ := r.slots j x hx
      rw [wipe_out hj] at e1
      exact ⟨v, o, e1, by rw [wipeO_out hj]; exact e2, e3⟩
  · obtain ⟨n1, n2, n3⟩ := List.nodup_append.mp r.nd
    exact List.nodup_append.mpr ⟨wipeO_nodup n1, n2, fun x hx y hy => n3 x (wipeO_ow (a := x) hx) y hy⟩
end

/-! ### the loop -/
theorem noX_ok {α : Type} {r : Res α} {a : α} {s : Sta} (h : noX r = .ok a s) : r = .ok a s := by
  cases r <;> first | exact h | cases h
theorem noX_exn {α : Type} {r : Res α} {x : Exn} {s : Sta} : noX r ≠ .exn x s := by
  cases r <;> intro h <;> cases h
theorem compL_exn {turn : D → Sta → Res (Option D)} (ht : ∀ d s x s', turn d s ≠ .exn x s') : ∀ (ds acc : List D) (s : Sta) (x : Exn) (s' : Sta), compL turn ds acc s ≠ .exn x s'
  | [], _, _, _, _ => by intro h; cases h
  | d :: ds, acc, s, x, s' => by
    intro h
    simp only [compL] at h
    cases e : turn d s with
    | stuck => rw [e] at h; cases h
    | exn y s2 => exact ht d s y s2 e
    | ok r s1 =>
      rw [e] at h
      cases r with
      | none => exact compL_exn ht ds acc s1 x s' h
      | some y =>
        simp only [Res.bind] at h
        split at h
        · exact compL_exn ht ds _ s1 x s' h
        · cases h
abbrev wF : WX := fun _ _ _ _ => False
section
variable {W : Wo} {wx : WX} {P : Prog}
theorem lc_w {tg : Tg} {vs : List Nat} {it : It} {ifs : List T} {e : E} (hsub : ∀ v ∈ tgv tg, v ∈ vs) {σ : L2.St} {H : Hp} {Q : VK} (h : tE W wx (ev P (.comp tg vs it ifs e)) σ H Q) :
    tLc (tI W wx (evit P it)) (tG W tg) (tB W wF (evts P ifs)) (tV W wF (ev P e)) vs σ H Q := by
  obtain ⟨G, O, s, e0, r, q⟩ := h
  refine ⟨G, O, s, e0, r, ?_⟩
  simp only [ev] at q
  refine Out.bind mono_RO q fun ds s1 _ J G1 O1 fr r1 rr q1 => ?_
  have rr : JOk W G1 ds J := rr
  generalize hturn : (fun (d : D) (s2 : Sta) => noX (match assign tg d s2.σ with
            | some σ' => (evts P ifs { s2 with σ := σ' }).bind fun b s3 => if b = true then (ev P e s3).bind fun x s4 => Res.ok (some x.2) { s4 with σ := wipeZ s4.σ vs } else Res.ok none { s3 with σ := wipeZ s3.σ vs }
            | none => Res.stuck)) = turn at q1
  split at q1
  · rename_i hsh
    have hsh : ∀ v ∈ vs, isSh (s1.σ.getD v .no) = true := by simpa using hsh
    cases ec : compL turn ds [] { s1 with σ := wipeZ s1.σ vs } with
    | stuck => rw [ec] at q1; exact q1.elim
    | exn x s' => exact absurd ec (compL_exn (fun d s x s' => by rw [← hturn]; exact noX_exn) _ _ _ _ _)
    | ok res s5 =>
      rw [ec] at q1
      have q1 : ∀ b G' O', Frm G1 (ow O1) G' (ow O') → StRep W G' { s5 with σ := backZ s1.σ s5.σ vs } σ O' → RO W G1 O1 G' O' { s5 with σ := backZ s1.σ s5.σ vs } (true, .lst res) b → Q b G'.H := q1
      intro D nD
      let inv : Nat → Hp → Prop := fun i H => ∃ (G' : Gh) (O' : List (Option Addr)) (s' : Sta) (acc : List Z.D) (avs : List V), G'.H = H ∧ StRep W G' s' (L2.wipe σ vs) O' ∧ Frm G1 (ow O1) G' (ow O') ∧ Side G' O' D (.lst avs) ∧ Reps W G' acc avs ∧
        compL turn (ds.drop i) acc s' = .ok res s5
      refine ⟨fun i m H => m = ds.length - i ∧ i ≤ ds.length ∧ inv i H, ⟨ds.length, by simp, Nat.zero_le _, ?_⟩, ?_⟩
      · have ex := ext_new (o := HO.lst []) nD
        have r2 := (r1.wipe vs).ext ex
        have hD : ∀ a, a ∈ ow (wipeO O1 vs) ∨ a ∈ G1.M → a ≠ D := fun a ha z => by
          subst z
          rcases ha with ha | ha
          · obtain ⟨i, c, _, _, h3, _⟩ := ow_in r1 (wipeO_ow ha)
            obtain ⟨o, ho, _⟩ := h3.there
            rw [nD] at ho; cases ho
          · obtain ⟨n, c, _, _, h3, _⟩ := mem_M r1 ha
            obtain ⟨o, ho, _⟩ := h3.there
            rw [nD] at ho; cases ho
        refine ⟨⟨upd G1.H D (.lst []), G1.F, G1.M⟩, _, _, [], [], rfl, r2, frm_wipe.trans ((r1.wipe vs).fr ex), ⟨upd_same, fun z => ?_, fun z => hD D (.inl z) rfl, fun z => hD D (.inr z) rfl⟩, by simp [Reps], ec⟩
        obtain ⟨o, ho⟩ := r1.dom D z
        rw [nD] at ho; cases ho
      · rintro i m H ⟨rfl, hi, G', O', s', acc, avs, rfl, r', f', sd, ra, hc⟩
        by_cases hlt : i < ds.length
        · refine .inr ⟨rr.go G' i f'.keep hlt, inv (i + 1), fun H' p' => ⟨ds.length - (i + 1), by omega, rfl, hlt, p'⟩, fun x H' y => ?_⟩
          obtain ⟨d, hd⟩ : ∃ d, ds[i]? = some d := ⟨_, List.getElem?_eq_getElem hlt⟩
          obtain ⟨G2, rfl, ex, rx⟩ := rr.yld G' i d x H' f'.keep r'.dom hd y
          have r2 := r'.ext ex
          have f2 := f'.trans (r'.fr ex)
          have sd2 := sd.frm (r'.fr ex)
          have ra2 := Reps.keep (r'.fr ex).keep _ _ ra
          have hdrop : ds.drop i = d :: ds.drop (i + 1) := by
            rw [List.drop_eq_getElem_cons hlt]
            rw [List.getElem?_eq_getElem hlt] at hd
            cases hd; rfl
          rw [hdrop] at hc
          simp only [compL] at hc
          cases et : turn d s' with
          | stuck => rw [et] at hc; cases hc
          | exn x s'' => rw [et] at hc; cases hc
          | ok ro s'' =>
            rw [et] at hc
            rw [← hturn] at et
            have et := noX_ok et
            cases ea : assign tg d s'.σ with
            | none => rw [ea] at et; cases et
            | some z =>
              rw [ea] at et
              simp only at et
              refine ⟨G2, O', s', d, z, rfl, r2, rx, ea, fun σ2 O2 r3 f3 n3 l3 => ?_⟩
              have hw : L2.wipe σ2 vs = L2.wipe σ vs := wipe_eq (by rw [l3, wipe_length]) fun j hj => n3 j fun z => hj (hsub j z)
              refine ⟨hw, G2, O2, { s' with σ := z }, rfl, r3, ?_⟩
              cases ev1 : evts P ifs { s' with σ := z } with
              | stuck => rw [ev1] at et; cases et
              | exn y s3 => rw [ev1] at et; cases et
              | ok b s3 =>
                rw [ev1] at et
                intro b' G3 O3 f4 r4 eb
                have eb : b = b' := eb
                subst eb
                simp only [Res.bind] at et
                cases b with
                | false =>
                  simp only [Bool.false_eq_true, if_false] at et ⊢
                  cases et
                  simp only [Res.bind] at hc
                  have r5 := r4.wipe vs
                  rw [hw] at r5
                  have ff := f3.trans (f4.trans (frm_wipe (vs := vs)))
                  exact ⟨G3, _, _, acc, avs, rfl, r5, f2.trans ff, sd2.frm ff, Reps.keep ff.keep _ _ ra2, hc⟩
                | true =>
                  simp only [if_true] at et ⊢
                  refine ⟨G3, O3, s3, rfl, r4, ?_⟩
                  cases ev2 : ev P e s3 with
                  | stuck => rw [ev2] at et; cases et
                  | exn y s4 => rw [ev2] at et; cases et
                  | ok x s4 =>
                    rw [ev2] at et
                    cases et
                    simp only [Res.bind] at hc
                    split at hc
                    · rename_i hlen
                      intro y G4 O4 f5 r5 ry
                      have ry : Rep W G4 x.2 y := ry
                      have r6 := r5.wipe vs
                      rw [hw] at r6
                      have ff := f3.trans (f4.trans (f5.trans (frm_wipe (vs := vs))))
                      have sd5 := sd2.frm ff
                      refine ⟨avs, sd5.h, by rw [ra.len, ← lim_line]; exact hlen, ⟨upd G4.H D (.lst (avs ++ [y])), G4.F, G4.M⟩, _, _, acc ++ [x.2], avs ++ [y], rfl, r6.side sd5 rfl, (f2.trans ff).side r1.dom nD, ⟨upd_same, sd5.f, sd5.o, sd5.m⟩, ?_, hc⟩
                      have kk : Keep G4 ⟨upd G4.H D (.lst (avs ++ [y])), G4.F, G4.M⟩ := sd5.keep rfl
                      exact (Reps.keep (ff.keep.trans kk) _ _ ra2).append (.one (Rep.keep kk _ _ ry))
                    · cases hc
        · have e : i = ds.length := by omega
          subst e
          refine .inl ⟨rr.stop G' _ f'.keep (Nat.le_refl _), ?_⟩
          rw [List.drop_length] at hc
          cases hc
          refine q1 (.ref D) G' _ (f'.trans (frm_wipe (vs := vs))) (r1.back r' f'.keep hsh) ?_
          unfold RO
          rw [if_pos rfl]
          exact ⟨.L res, D, rfl, rfl, ⟨avs, sd.h, ra⟩, sd.f, fun z => sd.o (wipeO_ow z), sd.m, .inr nD⟩
  · exact q1.elim
end
end Z

set_option Elab.async false
set_option linter.all false
set_option maxRecDepth 100000
set_option maxHeartbeats 4000000
set_option autoImplicit false
/-! ZSndD: dicts displayed and comprehended; written dicts of the module. -/
namespace Z
open PySem PySem.Spec PyProof.Rows L2
theorem litB_kd {d : D} {c : Const} (h : litB d c = true) (hk : keyOk d = true) : ∃ k : Key, d = kD k := by
  cases d with
  | int i => exact ⟨.inl i, rfl⟩
  | str x => exact ⟨.inr (toS x), rfl⟩
  | _ => cases hk
theorem dcompL_exn {turn : D → Sta → Res (Option (D × D))} (ht : ∀ d s x s', turn d s ≠ .exn x s') : ∀ (ds ks us : List D) (s : Sta) (x : Exn) (s' : Sta), dcompL turn ds ks us s ≠ .exn x s'
  | [], _, _, _, _, _ => by intro h; cases h
  | d :: ds, ks, us, s, x, s' => by
    intro h
    simp only [dcompL] at h
    cases e : turn d s with
    | stuck => rw [e] at h; cases h
    | exn y s2 => exact ht d s y s2 e
    | ok r s1 =>
      rw [e] at h
      cases r with
      | none => exact dcompL_exn ht ds ks us s1 x s' h
      | some y =>
        obtain ⟨y1, y2⟩ := y
        simp only [Res.bind] at h
        split at h
        · exact dcompL_exn ht ds _ _ s1 x s' h
        · cases h
section
variable {W : Wo} {G : Gh}
theorem rep_rep {x : Key} {d : D} {v : V} (hd : Rep W G d v) : ∀ (kvs : List (Key × V)) (us : List D), Reps W G us (kvs.map (·.2)) → Reps W G (repD (kvs.map fun p => kD p.1) us (kD x) d) ((kvs.map fun kv => if kv.1 = x then (kv.1, v) else kv).map (·.2))
  | [], us, h => by
    have : us = [] := by
      cases us with
      | nil => rfl
      | cons a b => simp [Reps] at h
    subst this
    simp [repD, Reps]
  | (k', v') :: r, us, h => by
    cases us with
    | nil => simp [Reps] at h
    | cons e es =>
      simp only [Reps, List.map_cons] at h
      obtain ⟨v1, r1, e1, h1, h2⟩ := h
      cases e1
      simp only [List.map_cons, repD, kD_eqv, Reps]
      refine ⟨_, _, rfl, ?_, rep_rep hd r es h2⟩
      by_cases q : k' = x
      · rw [decide_eq_true q, if_pos rfl, if_pos q]; exact hd
      · rw [decide_eq_false q, if_neg Bool.false_ne_true, if_neg q]; exact h1
theorem put_rep {x : Key} {d : D} {v : V} (hd : Rep W G d v) {kvs : List (Key × V)} {us : List D} (h : Reps W G us (kvs.map (·.2))) :
    (putD (kvs.map fun p => kD p.1) us (kD x) d).1 = (putK kvs x v).map (fun p => kD p.1) ∧ Reps W G (putD (kvs.map fun p => kD p.1) us (kD x) d).2 ((putK kvs x v).map (·.2)) := by
  unfold putD putK
  rw [valV_any]
  rcases look_rep x kvs us h with ⟨h1, h2⟩ | ⟨d', v', h1, h2, _⟩
  · rw [h1, h2]
    simp only [Option.isSome_none, Bool.false_eq_true, if_false]
    refine ⟨by simp, ?_⟩
    rw [List.map_append]
    exact h.append (.one hd)
  · rw [h1, h2]
    simp only [Option.isSome_some, if_true]
    refine ⟨?_, rep_rep hd kvs us h⟩
    rw [List.map_map]
    apply List.map_congr_left
    intro p _
    show kD p.1 = kD (if p.1 = x then (p.1, v) else p).1
    split <;> rfl
end
section
variable {W : Wo} {wx : WX} {P : Prog} {X : Cx} {nm : Nm} {t : Tbl} {k : Nat} {N : List Str} {sc ws : Scope}
theorem rep_kD {G : Gh} {kk : Key} {v : V} (h : Rep W G (kD kk) v) : v = kV kk := by
  cases kk with
  | inl i => simp only [kD, Rep] at h; exact h
  | inr z =>
    simp only [kD, Rep] at h
    rw [h.1, toS_of]
    rfl
theorem dc_w {tg : Tg} {vs : List Nat} {it : It} {ifs : List T} {ke e : E} (hsub : ∀ v ∈ tgv tg, v ∈ vs) {σ : L2.St} {H : Hp} {Q : VK} (h : tE W wx (ev P (.dcomp tg vs it ifs ke e)) σ H Q) :
    tDc (tI W wx (evit P it)) (tG W tg) (tB W wF (evts P ifs)) (tV W wF (ev P ke)) (tV W wF (ev P e)) vs σ H Q := by
  obtain ⟨G, O, s, e0, r, q⟩ := h
  refine ⟨G, O, s, e0, r, ?_⟩
  simp only [ev] at q
  refine Out.bind mono_RO q fun ds s1 _ J G1 O1 fr r1 rr q1 => ?_
  have rr : JOk W G1 ds J := rr
  generalize hturn : (fun (d : D) (s2 : Sta) => noX (match assign tg d s2.σ with
            | some σ' => (evts P ifs { s2 with σ := σ' }).bind fun b s3 => if b = true then (ev P ke s3).bind fun y s4 => (ev P e s4).bind fun x s5 => Res.ok (some (y.2, x.2)) { s5 with σ := wipeZ s5.σ vs } else Res.ok none { s3 with σ := wipeZ s3.σ vs }
            | none => Res.stuck)) = turn at q1
  split at q1
  · rename_i hsh
    have hsh : ∀ v ∈ vs, isSh (s1.σ.getD v .no) = true := by simpa using hsh
    cases ec : dcompL turn ds [] [] { s1 with σ := wipeZ s1.σ vs } with
    | stuck => rw [ec] at q1; exact q1.elim
    | exn x s' => exact absurd ec (dcompL_exn (fun d s x s' => by rw [← hturn]; exact noX_exn) _ _ _ _ _ _)
    | ok res s5 =>
      rw [ec] at q1
      have q1 : ∀ b G' O', Frm G1 (ow O1) G' (ow O') → StRep W G' { s5 with σ := backZ s1.σ s5.σ vs } σ O' → RO W G1 O1 G' O' { s5 with σ := backZ s1.σ s5.σ vs } (true, .dct res.1 res.2) b → Q b G'.H := q1
      intro D nD
      let inv : Nat → Hp → Prop := fun i H => ∃ (G' : Gh) (O' : List (Option Addr)) (s' : Sta) (us : List Z.D) (kvs : List (Key × V)), G'.H = H ∧ StRep W G' s' (L2.wipe σ vs) O' ∧ Frm G1 (ow O1) G' (ow O') ∧ Side G' O' D (.dK kvs) ∧ Reps W G' us (kvs.map (·.2)) ∧
        dcompL turn (ds.drop i) (kvs.map fun p => kD p.1) us s' = .ok res s5
      refine ⟨fun i m H => m = ds.length - i ∧ i ≤ ds.length ∧ inv i H, ⟨ds.length, by simp, Nat.zero_le _, ?_⟩, ?_⟩
      · have ex := ext_new (o := HO.dK []) nD
        have r2 := (r1.wipe vs).ext ex
        have hD : ∀ a, a ∈ ow (wipeO O1 vs) ∨ a ∈ G1.M → a ≠ D := fun a ha z => by
          subst z
          rcases ha with ha | ha
          · obtain ⟨i, c, _, _, h3, _⟩ := ow_in r1 (wipeO_ow ha)
            obtain ⟨o, ho, _⟩ := h3.there
            rw [nD] at ho; cases ho
          · obtain ⟨n, c, _, _, h3, _⟩ := mem_M r1 ha
            obtain ⟨o, ho, _⟩ := h3.there
            rw [nD] at ho; cases ho
        refine ⟨⟨upd G1.H D (.dK []), G1.F, G1.M⟩, _, _, [], [], rfl, r2, frm_wipe.trans ((r1.wipe vs).fr ex), ⟨upd_same, fun z => ?_, fun z => hD D (.inl z) rfl, fun z => hD D (.inr z) rfl⟩, by simp [Reps], ec⟩
        obtain ⟨o, ho⟩ := r1.dom D z
        rw [nD] at ho; cases ho
      · rintro i m H ⟨rfl, hi, G', O', s', us, kvs, rfl, r', f', sd, ra, hc⟩
        by_cases hlt : i < ds.length
        · refine .inr ⟨rr.go G' i f'.keep hlt, inv (i + 1), fun H' p' => ⟨ds.length - (i + 1), by omega, rfl, hlt, p'⟩, fun x H' y => ?_⟩
          obtain ⟨d, hd⟩ : ∃ d, ds[i]? = some d := ⟨_, List.getElem?_eq_getElem hlt⟩
          obtain ⟨G2, rfl, ex, rx⟩ := rr.yld G' i d x H' f'.keep r'.dom hd y
          have r2 := r'.ext ex
          have f2 := f'.trans (r'.fr ex)
          have sd2 := sd.frm (r'.fr ex)
          have ra2 := Reps.keep (r'.fr ex).keep _ _ ra
          have hdrop : ds.drop i = d :: ds.drop (i + 1) := by
            rw [List.drop_eq_getElem_cons hlt]
            rw [List.getElem?_eq_getElem hlt] at hd
            cases hd; rfl
          rw [hdrop] at hc
          simp only [dcompL] at hc
          cases et : turn d s' with
          | stuck => rw [et] at hc; cases hc
          | exn x s'' => rw [et] at hc; cases hc
          | ok ro s'' =>
            rw [et] at hc
            rw [← hturn] at et
            have et := noX_ok et
            cases ea : assign tg d s'.σ with
            | none => rw [ea] at et; cases et
            | some z =>
              rw [ea] at et
              simp only at et
              refine ⟨G2, O', s', d, z, rfl, r2, rx, ea, fun σ2 O2 r3 f3 n3 l3 => ?_⟩
              have hw : L2.wipe σ2 vs = L2.wipe σ vs := wipe_eq (by rw [l3, wipe_length]) fun j hj => n3 j fun z => hj (hsub j z)
              refine ⟨hw, G2, O2, { s' with σ := z }, rfl, r3, ?_⟩
              cases ev1 : evts P ifs { s' with σ := z } with
              | stuck => rw [ev1] at et; cases et
              | exn y s3 => rw [ev1] at et; cases et
              | ok b s3 =>
                rw [ev1] at et
                intro b' G3 O3 f4 r4 eb
                have eb : b = b' := eb
                subst eb
                simp only [Res.bind] at et
                cases b with
                | false =>
                  simp only [Bool.false_eq_true, if_false] at et ⊢
                  cases et
                  simp only [Res.bind] at hc
                  have r5 := r4.wipe vs
                  rw [hw] at r5
                  have ff := f3.trans (f4.trans (frm_wipe (vs := vs)))
                  exact ⟨G3, _, _, us, kvs, rfl, r5, f2.trans ff, sd2.frm ff, Reps.keep ff.keep _ _ ra2, hc⟩
                | true =>
                  simp only [if_true] at et ⊢
                  refine ⟨G3, O3, s3, rfl, r4, ?_⟩
                  cases ev2 : ev P ke s3 with
                  | stuck => rw [ev2] at et; cases et
                  | exn y s4 => rw [ev2] at et; cases et
                  | ok yk s4 =>
                    rw [ev2] at et
                    simp only [Res.bind] at et
                    intro y G4 O4 f5 r5 ry
                    have ry : Rep W G4 yk.2 y := ry
                    refine ⟨G4, O4, s4, rfl, r5, ?_⟩
                    cases ev3 : ev P e s4 with
                    | stuck => rw [ev3] at et; cases et
                    | exn y s5 => rw [ev3] at et; cases et
                    | ok xk s6 =>
                      rw [ev3] at et
                      cases et
                      simp only [Res.bind] at hc
                      split at hc
                      · rename_i hlen
                        intro z' G5 O5 f6 r6 rz
                        have rz : Rep W G5 xk.2 z' := rz
                        obtain ⟨kk, hkk⟩ : ∃ kk : Key, yk.2 = kD kk := by
                          have hko := hlen.1
                          cases hy : yk.2 with
                          | int i => exact ⟨.inl i, rfl⟩
                          | str x => exact ⟨.inr (toS x), rfl⟩
                          | _ => rw [hy] at hko; cases hko
                        rw [hkk] at ry hc
                        have r7 := r6.wipe vs
                        rw [hw] at r7
                        have ff := f3.trans (f4.trans (f5.trans (f6.trans (frm_wipe (vs := vs)))))
                        have sd5 := sd2.frm ff
                        refine ⟨kvs, kk, rep_kD ry, sd5.h, by rw [← lim_line]; simpa using hlen.2, ?_⟩
                        have kp : Keep G5 ⟨upd G5.H D (.dK (putK kvs kk z')), G5.F, G5.M⟩ := sd5.keep rfl
                        obtain ⟨p1, p2⟩ := put_rep (x := kk) (Rep.keep kp _ _ rz) (Reps.keep (ff.keep.trans kp) _ _ ra2)
                        rw [p1] at hc
                        exact ⟨⟨upd G5.H D (.dK (putK kvs kk z')), G5.F, G5.M⟩, _, _, _, putK kvs kk z', rfl, r7.side sd5 rfl, (f2.trans ff).side r1.dom nD, ⟨upd_same, sd5.f, sd5.o, sd5.m⟩, p2, hc⟩
                      · cases hc
        · have e : i = ds.length := by omega
          subst e
          refine .inl ⟨rr.stop G' _ f'.keep (Nat.le_refl _), ?_⟩
          rw [List.drop_length] at hc
          cases hc
          refine q1 (.ref D) G' _ (f'.trans (frm_wipe (vs := vs))) (r1.back r' f'.keep hsh) ?_
          unfold RO
          rw [if_pos rfl]
          exact ⟨.M (kvs.map fun p => kD p.1) us, D, rfl, rfl, ⟨kvs, sd.h, rfl, ra⟩, sd.f, fun z => sd.o (wipeO_ow z), sd.m, .inr nD⟩
  · exact q1.elim
def trD (W : Wo) (wx : WX) (P : Prog) : List D → List E → List (TE × TE)
  | d :: ds, i :: is => (tV W wx (ev P (.lit d)), tV W wx (ev P i)) :: trD W wx P ds is
  | _, _ => []
theorem pps_of {pos : Pos} : ∀ {es : List (Option Expr)} {ks : List D} {is : List E} {vs : List Expr}, keyLits es ks = true → EOks W wx X P is vs → es.length = vs.length → PPs X pos es vs (trD W wx P ks is) ∧ es.all (·.isSome) = true ∧ ∃ kks : List Key, ks = kks.map kD ∧ kks.length = is.length
  | [], [], _, _, _, h, hl => by
    cases h with
    | nil => exact ⟨pps_nil, rfl, [], rfl, rfl⟩
    | cons _ _ => cases hl
  | [], _ :: _, _, _, hk, _, _ => by cases hk
  | none :: _, _, _, _, hk, _, _ => by cases hk
  | some e :: es, [], _, _, hk, _, _ => by cases e <;> cases hk
  | some e :: es, d :: ks, _, _, hk, h, hl => by
    cases e <;> first | (cases hk; done) | skip
    rename_i c j p
    have hk : (litB d c && keyOk d && keyLits es ks) = true := hk
    simp only [Bool.and_eq_true] at hk
    cases h with
    | nil => cases hl
    | cons h1 h2 =>
      obtain ⟨a1, a2, kks, a3, a4⟩ := pps_of (pos := pos) hk.2 h2 (by simpa using hl)
      obtain ⟨kk, rfl⟩ := litB_kd hk.1.1 hk.1.2
      refine ⟨pps_cons (pv_of (z_lit hk.1.1)) h1.pv a1, by simp [a2], kk :: kks, by simp [a3], by simp [a4]⟩
theorem pairs_w {σ : L2.St} : ∀ (kks : List Key) (is : List E) (G : Gh) (O : List (Option Addr)) (s : Sta) (Q : List V → Hp → Prop) (F : List (V × V) → Hp → Prop), kks.length = is.length → StRep W G s σ O → Out W wx G O σ (RVs W) Q (evs P is s) →
    (∀ us H, us.length = kks.length → Q us H → F (List.zipWith (fun k u => (kV k, u)) kks us) H) → tPairs (trD W wx P (kks.map kD) is) σ G.H F
  | [], [], G, O, s, Q, F, _, r, h, hF => hF [] G.H rfl (Out.refl_ok (b := ([] : List V)) r h (by simp [RVs, Reps]))
  | [], _ :: _, _, _, _, _, _, hl, _, _, _ => by cases hl
  | _ :: _, [], _, _, _, _, _, hl, _, _, _ => by cases hl
  | kk :: kks, i :: is, G, O, s, Q, F, hl, r, h, hF => by
    refine ⟨G, O, s, rfl, r, fun v G1 O1 fr r1 rr => ?_⟩
    have rr : Rep W G1 (kD kk) v := rr
    cases rep_kD rr
    refine ⟨G1, O1, s, rfl, r1, ?_⟩
    have h' := Out.shift mono_RVs fr h
    simp only [evs] at h'
    refine Out.bind mono_RVs h' fun a s1 _ y G2 O2 fr2 r2 rr2 q1 => ?_
    have rr2 : Rep W G2 a.2 y := rr2
    refine pairs_w kks is G2 O2 s1 (fun us H => Q (y :: us) H) _ (by simpa using hl) r2 ?_ fun us H hu hq => hF (y :: us) H (by simp [hu]) hq
    refine Out.bind mono_RVs q1 fun b s2 _ xs G3 O3 fr3 r3 rs q2 => ?_
    refine Out.refl_ok r3 q2 ?_
    simp only [RVs, Reps]
    exact ⟨y, xs, rfl, Rep.keep fr3.keep _ _ rr2, rs⟩
theorem mk_rep {G : Gh} : ∀ (kks : List Key) (ds : List D) (us : List V) (acc : List (Key × V)) (aus : List D), kks.length = us.length → Reps W G ds us → Reps W G aus (acc.map (·.2)) →
    (mkDict (kks.map kD) ds (acc.map fun p => kD p.1) aus).1 = (mergeK acc (kks.zip us)).map (fun p => kD p.1) ∧ Reps W G (mkDict (kks.map kD) ds (acc.map fun p => kD p.1) aus).2 ((mergeK acc (kks.zip us)).map (·.2))
  | [], ds, us, acc, aus, hl, h, ha => by
    simp only [List.map_nil, mkDict, List.zip_nil_left]
    exact ⟨rfl, ha⟩
  | kk :: kks, [], us, acc, aus, hl, h, ha => by
    simp only [Reps] at h
    subst h
    cases hl
  | kk :: kks, d :: ds, us, acc, aus, hl, h, ha => by
    simp only [Reps] at h
    obtain ⟨v, r, rfl, h1, h2⟩ := h
    obtain ⟨p1, p2⟩ := put_rep (x := kk) h1 ha
    have ih := mk_rep kks ds r (putK acc kk v) _ (by simpa using hl) h2 p2
    simp only [List.map_cons, mkDict, List.zip_cons_cons]
    rw [p1]
    exact ih
theorem zip_ps : ∀ (kks : List Key) (us : List V), List.zipWith (fun k u => (kV k, u)) kks us = (kks.zip us).map fun kv => (kV kv.1, kv.2)
  | [], _ => by simp
  | _ :: _, [] => by simp
  | k :: ks, u :: us => by simp [zip_ps ks us]
theorem z_dct {ks : List D} {is : List E} {es : List (Option Expr)} {vs : List Expr} {pos : Pos} (C : Cok W nm t k wx N sc ws X) (hk : keyLits es ks = true) (hl : es.length = vs.length) (h15 : es.length ≤ 15) (h : EOks W wx X P is vs) : PE X (.Dict es vs pos) (tE W wx (ev P (.dct ks is))) := by
  obtain ⟨pp, hall, kks, rfl, hkl⟩ := pps_of (pos := pos) hk h hl
  have run : ∀ {σ : L2.St} {Q : VK} {G : Gh} {O : List (Option Addr)} {s : Sta}, StRep W G s σ O → Out W wx G O σ (RO W) Q (ev P (.dct (kks.map kD) is) s) → ∀ p, G.H p = none →
      tPairs (trD W wx P (kks.map kD) is) σ (upd G.H p (.dK [])) fun ps H2 => H2 p = some (.dK []) ∧ ∃ kvs : List (Key × V), ps = kvs.map (fun kv => (kV kv.1, kv.2)) ∧ kvs.length ≤ 15 ∧ Q (.ref p) (upd H2 p (.dK (mergeK [] kvs))) := fun {σ Q G O s} r q p np => by
    have ex := ext_new (o := HO.dK []) np
    have r0 := r.ext ex
    have f0 := r.fr ex
    have hD : ∀ a, a ∈ ow O ∨ a ∈ G.M → a ≠ p := fun a ha z => by
      subst z
      rcases ha with ha | ha
      · obtain ⟨i, c, _, _, h3, _⟩ := ow_in r ha
        obtain ⟨o, ho, _⟩ := h3.there
        rw [np] at ho; cases ho
      · obtain ⟨n, c, _, _, h3, _⟩ := mem_M r ha
        obtain ⟨o, ho, _⟩ := h3.there
        rw [np] at ho; cases ho
    have sd0 : Side ⟨upd G.H p (.dK []), G.F, G.M⟩ O p (.dK []) := ⟨upd_same, (fun z => by
      obtain ⟨o, ho⟩ := r.dom p z
      rw [np] at ho
      exact absurd ho (by simp)), fun z => hD p (.inl z) rfl, fun z => hD p (.inr z) rfl⟩
    simp only [ev] at q
    refine pairs_w kks is ⟨upd G.H p (.dK []), G.F, G.M⟩ O s (fun us H2 => ∃ (G' : Gh) (O' : List (Option Addr)) (s' : Sta) (ds : List D), G'.H = H2 ∧ Frm ⟨upd G.H p (.dK []), G.F, G.M⟩ (ow O) G' (ow O') ∧ StRep W G' s' σ O' ∧ Reps W G' ds us ∧ evs P is s = .ok ds s') _ hkl r0 ?_ fun us H hu hq => ?_
    · cases e1 : evs P is s with
      | stuck => rw [e1] at q; exact q
      | exn x s1 => rw [e1] at q; exact fun G' O' fr sr => q G' O' (f0.trans fr) sr
      | ok ds s1 => exact fun b G' O' fr sr rr => ⟨G', O', s1, ds, rfl, fr, sr, rr, rfl⟩
    · obtain ⟨G', O', s', ds, rfl, fr, sr, rr, e1⟩ := hq
      rw [e1] at q
      simp only [Res.bind] at q
      have sd := sd0.frm fr
      split at q
      · rename_i hcond
        refine ⟨sd.h, kks.zip us, zip_ps kks us, ?_, ?_⟩
        · rw [List.length_zip, hu, Nat.min_self, hkl]
          have := hcond.2.2
          simp at this
          omega
        · have kp : Keep G' ⟨upd G'.H p (.dK (mergeK [] (kks.zip us))), G'.F, G'.M⟩ := sd.keep rfl
          obtain ⟨m1, m2⟩ := mk_rep kks ds us [] [] hu.symm rr (by simp [Reps])
          refine q (.ref p) ⟨upd G'.H p (.dK (mergeK [] (kks.zip us))), G'.F, G'.M⟩ O' ((f0.trans fr).side r.dom np) (sr.side sd rfl) ?_
          unfold RO
          rw [if_pos rfl]
          refine ⟨.M _ _, p, rfl, rfl, ⟨_, upd_same, m1, Reps.keep kp _ _ m2⟩, sd.f, sd.o, sd.m, .inr np⟩
      · exact q.elim
  by_cases h0 : es = []
  · subst h0
    have hv : vs = [] := by
      cases vs with
      | nil => rfl
      | cons _ _ => cases hl
    subst hv
    refine pe_weak pe_dnewK fun σ H Q q => ?_
    obtain ⟨G, O, s, rfl, r, q⟩ := q
    intro p np
    have hi : is = [] := by cases h; rfl
    subst hi
    have hkk : kks = [] := by simpa using hkl
    subst hkk
    obtain ⟨_, kvs, e, _, q2⟩ := run r q p np
    have : kvs = [] := by
      cases kvs with
      | nil => rfl
      | cons _ _ => simp at e
    subst this
    have e2 : upd (upd G.H p (.dK [])) p (.dK (mergeK [] [])) = upd G.H p (.dK []) := by
      funext a
      by_cases ha : a = p
      · subst ha; rw [upd_same, upd_same]; rfl
      · rw [upd_ne ha, upd_ne ha]
    rw [← e2]
    exact q2
  · refine pe_weak (pe_disp pp hall hl h0 h15) fun σ H Q q => ?_
    obtain ⟨G, O, s, rfl, r, q⟩ := q
    exact fun p np => run r q p np
/-! ### a written dict of the module -/
theorem kd_ns {g : Nat} {x : Str} (C : Cok W nm t k wx N sc ws X) (h : nm.kd[g]? = some x) : ∃ (d : Addr) (es : Array DictEntry) (n : Nat), X.mg x = some (.ref d) ∧ KDict X.K X.w d es n ∧
    ∀ (z : List Nat) (r : Option Int), (t.kd g).lookup z = some r → match r with
      | none => PySem.W.nsIn X.K d (toS z) = some none
      | some i => ∃ u, PySem.W.nsIn X.K d (toS z) = some (some u) ∧ RelV (.int i) u := by
  obtain ⟨d, es, n, h1, h2, h3⟩ := C.kds.ex g x h
  exact ⟨d, es, n, h1, h2, h3⟩
theorem z_tkin {ng : Bool} {g : Nat} {i : E} {a b : Expr} {pos : Pos} (C : Cok W nm t k wx N sc ws X) (hg : isGl nm.kd sc g b = true) (h : EOk W wx X (prog t k) i a) : TOk W wx X (prog t k) (.kin ng g i) (.Compare a [if ng then .NotIn else .In] [b] pos) := by
  obtain ⟨x, p, rfl, g1, g2, g3⟩ := isGl_of C hg
  obtain ⟨d, es, n, k1, k2, k3⟩ := kd_ns C g1
  have hb : PE X (.Name x p) (tC (.ref d)) := pe_glob g2 k1 rfl g3
  have core : ∀ {σ : L2.St} {H : Hp} {Q : Bool → Hp → Prop}, tB W wx (evt (prog t k) (.kin ng g i)) σ H Q → tV W wx (ev (prog t k) i) σ H fun v H1 => ∃ (z : Str) (r : Option Value), v = .str z ∧ PySem.W.nsIn X.K d z = some r ∧ Q (r.isSome != ng) H1 := fun {σ H Q} q => by
    obtain ⟨G, O, s, e, r, q⟩ := q
    refine ⟨G, O, s, e, r, ?_⟩
    simp only [evt] at q
    refine Out.bind mono_RB q fun a s1 _ v G1 O1 fr r1 rr q1 => ?_
    have rr : Rep W G1 a.2 v := rr
    split at q1
    · rename_i z hz
      rw [hz] at rr
      obtain ⟨rfl, _⟩ := repw_str rr.w
      cases el : (t.kd g).lookup z with
      | none =>
        have q1 : Out W wx G1 O1 σ RB Q (match (t.kd g).lookup z with
          | some r => Res.ok (r.isSome != ng) s1
          | none => .stuck) := q1
        rw [el] at q1; exact q1.elim
      | some ro =>
        have q1 : Out W wx G1 O1 σ RB Q (match (t.kd g).lookup z with
          | some r => Res.ok (r.isSome != ng) s1
          | none => .stuck) := q1
        rw [el] at q1
        have kk := k3 z ro el
        have q2 := Out.refl_ok (b := (ro.isSome != ng)) r1 q1 rfl
        cases ro with
        | none => exact ⟨toS z, none, rfl, kk, q2⟩
        | some i =>
          obtain ⟨u, ku, _⟩ := kk
          exact ⟨toS z, some u, rfl, ku, q2⟩
    · exact q1.elim
  cases ng with
  | false =>
    refine ⟨pt_weak (pt_cmpR (op_in_kd k2) h.pv hb rfl) fun σ H Q q => ?_⟩
    obtain ⟨G, O, s, e, r, q⟩ := core q
    refine ⟨G, O, s, e, r, ?_⟩
    cases e1 : ev (prog t k) i s with
    | stuck => rw [e1] at q; exact q
    | exn x s1 => rw [e1] at q; exact q
    | ok a s1 =>
      rw [e1] at q
      intro v G1 O1 fr r1 rr
      obtain ⟨z, ro, rfl, k4, q2⟩ := q v G1 O1 fr r1 rr
      exact ⟨z, ro, rfl, rfl, k4, ro.isSome, rfl, by simpa using q2⟩
  | true =>
    refine ⟨pt_weak (pt_cmpR (op_notIn_kd k2) h.pv hb rfl) fun σ H Q q => ?_⟩
    obtain ⟨G, O, s, e, r, q⟩ := core q
    refine ⟨G, O, s, e, r, ?_⟩
    cases e1 : ev (prog t k) i s with
    | stuck => rw [e1] at q; exact q
    | exn x s1 => rw [e1] at q; exact q
    | ok a s1 =>
      rw [e1] at q
      intro v G1 O1 fr r1 rr
      obtain ⟨z, ro, rfl, k4, q2⟩ := q v G1 O1 fr r1 rr
      exact ⟨z, ro, rfl, rfl, k4, !ro.isSome, rfl, by simpa using q2⟩
theorem z_kin {ng : Bool} {g : Nat} {i : E} {a b : Expr} {pos : Pos} (C : Cok W nm t k wx N sc ws X) (hg : isGl nm.kd sc g b = true) (h : EOk W wx X (prog t k) i a) : PE X (.Compare a [if ng then .NotIn else .In] [b] pos) (tE W wx (ev (prog t k) (.kin ng g i))) := by
  obtain ⟨x, p, rfl, g1, g2, g3⟩ := isGl_of C hg
  obtain ⟨d, es, n, k1, k2, k3⟩ := kd_ns C g1
  have hb : PE X (.Name x p) (tC (.ref d)) := pe_glob g2 k1 rfl g3
  have core : ∀ {σ : L2.St} {H : Hp} {Q : VK}, tE W wx (ev (prog t k) (.kin ng g i)) σ H Q → tV W wx (ev (prog t k) i) σ H fun v H1 => ∃ (z : Str) (r : Option Value), v = .str z ∧ PySem.W.nsIn X.K d z = some r ∧ Q (.bl (r.isSome != ng)) H1 := fun {σ H Q} q => by
    obtain ⟨G, O, s, e, r, q⟩ := q
    refine ⟨G, O, s, e, r, ?_⟩
    simp only [ev] at q
    refine Out.bind mono_RO q fun a s1 _ v G1 O1 fr r1 rr q1 => ?_
    have rr : Rep W G1 a.2 v := rr
    split at q1
    · rename_i z hz
      rw [hz] at rr
      obtain ⟨rfl, _⟩ := repw_str rr.w
      have q1 : Out W wx G1 O1 σ (RO W) Q (match (t.kd g).lookup z with
          | some r => Res.ok (false, D.bl (r.isSome != ng)) s1
          | none => .stuck) := q1
      cases el : (t.kd g).lookup z with
      | none => rw [el] at q1; exact q1.elim
      | some ro =>
        rw [el] at q1
        have kk := k3 z ro el
        have q2 := Out.refl_ok (b := V.bl (ro.isSome != ng)) r1 q1 (ro_val rep_bl)
        cases ro with
        | none => exact ⟨toS z, none, rfl, kk, q2⟩
        | some i =>
          obtain ⟨u, ku, _⟩ := kk
          exact ⟨toS z, some u, rfl, ku, q2⟩
    · exact q1.elim
  have lift : ∀ {σ : L2.St} {H : Hp} {Q : VK} {op : CmpOp}, tE W wx (ev (prog t k) (.kin ng g i)) σ H Q → tV W wx (ev (prog t k) i) σ H fun v H1 => ∃ (z : Str) (r : Option Value), v = .str z ∧ PySem.W.nsIn X.K d z = some r ∧ Q (.bl (r.isSome != ng)) H1 := fun q => core q
  cases ng with
  | false =>
    refine pe_weak (pe_cmpR (op_in_kd k2) h.pv hb rfl) fun σ H Q q => ?_
    obtain ⟨G, O, s, e, r, q⟩ := core q
    refine ⟨G, O, s, e, r, ?_⟩
    cases e1 : ev (prog t k) i s with
    | stuck => rw [e1] at q; exact q
    | exn x s1 => rw [e1] at q; exact q
    | ok a s1 =>
      rw [e1] at q
      intro v G1 O1 fr r1 rr
      obtain ⟨z, ro, rfl, k4, q2⟩ := q v G1 O1 fr r1 rr
      exact ⟨z, ro, rfl, rfl, k4, by simpa using q2⟩
  | true =>
    refine pe_weak (pe_cmpR (op_notIn_kd k2) h.pv hb rfl) fun σ H Q q => ?_
    obtain ⟨G, O, s, e, r, q⟩ := core q
    refine ⟨G, O, s, e, r, ?_⟩
    cases e1 : ev (prog t k) i s with
    | stuck => rw [e1] at q; exact q
    | exn x s1 => rw [e1] at q; exact q
    | ok a s1 =>
      rw [e1] at q
      intro v G1 O1 fr r1 rr
      obtain ⟨z, ro, rfl, k4, q2⟩ := q v G1 O1 fr r1 rr
      exact ⟨z, ro, rfl, rfl, k4, by simpa using q2⟩
theorem z_kix {g : Nat} {i : E} {a b : Expr} {pos : Pos} (C : Cok W nm t k wx N sc ws X) (hp : plainIxB b = true) (hg : isGl nm.kd sc g a = true) (h : EOk W wx X (prog t k) i b) : PE X (.Subscript a b pos) (tE W wx (ev (prog t k) (.kix g i))) := by
  obtain ⟨x, p, rfl, g1, g2, g3⟩ := isGl_of C hg
  obtain ⟨d, es, n, k1, k2, k3⟩ := kd_ns C g1
  have hb : PE X (.Name x p) (tC (.ref d)) := pe_glob g2 k1 rfl g3
  refine pe_weak (pe_ix ix_kdict hb h.pv (plainIx_of hp)) fun σ H Q q => ?_
  obtain ⟨G, O, s, e, r, q⟩ := q
  show tV W wx (ev (prog t k) i) σ H _
  refine ⟨G, O, s, e, r, ?_⟩
  simp only [ev] at q
  refine Out.bind mono_RO q fun a s1 _ v G1 O1 fr r1 rr q1 => ?_
  have rr : Rep W G1 a.2 v := rr
  split at q1
  · rename_i z hz
    rw [hz] at rr
    obtain ⟨rfl, _⟩ := repw_str rr.w
    have q1 : Out W wx G1 O1 σ (RO W) Q (match (t.kd g).lookup z with
          | some (some i) => Res.ok (false, D.int i) s1
          | _ => .stuck) := q1
    cases el : (t.kd g).lookup z with
    | none => rw [el] at q1; exact q1.elim
    | some ro =>
      rw [el] at q1
      cases ro with
      | none => exact q1.elim
      | some j =>
        obtain ⟨u, ku, ru⟩ := k3 z _ el
        exact ⟨d, toS z, .int j, rfl, rfl, ⟨es, n, u, k2.at_, k2.lit, ku, ru⟩, Out.refl_ok (b := V.int j) r1 q1 (ro_val rep_int)⟩
  · exact q1.elim
theorem z_tisN {ng : Bool} {i : E} {a : Expr} {pos p : Pos} {j : Nat} (h : EOk W wx X P i a) : TOk W wx X P (.isN ng i) (.Compare a [if ng then .IsNot else .Is] [.Constant .none j p] pos) := by
  have core : ∀ {σ : L2.St} {H : Hp} {Q : Bool → Hp → Prop}, tB W wx (evt P (.isN ng i)) σ H Q → tR W wx (rdArg i (ev P i)) σ H fun x H1 => rNoneZ W ng x .non H1 fun v H2 => ∃ k, v = .bl k ∧ Q k H2 := fun {σ H Q} q => by
    obtain ⟨G, O, s, e, r, q⟩ := q
    refine ⟨G, O, s, e, r, ?_⟩
    simp only [evt] at q
    refine Out.bind mono_RB q fun a s1 _ x G1 O1 fr r1 rr q1 => ?_
    cases e1 : a.get s1 with
    | none => rw [e1] at q1; exact q1.elim
    | some d =>
      rw [e1] at q1
      simp only at q1
      cases e2 : noneD ng d with
      | none => rw [e2] at q1; exact q1.elim
      | some y =>
        obtain ⟨o, d'⟩ := y
        rw [e2] at q1
        cases d' with
        | bl c => exact ⟨rfl, G1, d, o, .bl c, rfl, r1.dom, arg_w (G0 := G) (O0 := O) r1 rr e1, e2, kont_bl r1 q1⟩
        | _ => exact q1.elim
  cases ng with
  | false => exact ⟨pt_weak (pt_cmpR (tb := tC .non) (op_isNoneZ (W := W)) h.pr pe_non (nomark _)) fun σ H Q q => core q⟩
  | true => exact ⟨pt_weak (pt_cmpR (tb := tC .non) (op_notNoneZ (W := W)) h.pr pe_non (nomark _)) fun σ H Q q => core q⟩
end
end Z

set_option Elab.async false
set_option linter.all false
set_option maxRecDepth 100000
set_option maxHeartbeats 4000000
set_option autoImplicit false
/-! ZSnd8: what is checked is so: expressions, tests, iterables. -/
namespace Z
open PySem PySem.Spec PyProof.Rows L2
section
variable {W : Wo} {wx : WX} {X : Cx} {P : Prog} {nm : Nm} {t : Tbl} {k : Nat} {N : List Str} {sc ws : Scope}
/-- an object shown as a cell -/
theorem StRep.cell {G0 G : Gh} {O0 O : List (Option Addr)} {s : Sta} {σ : L2.St} {c : Cell} {a : Addr} (f : Frm G0 (Z.ow O0) G (Z.ow O)) (r : StRep W G s σ O) (h : CRep W G c a) (nf : ¬ G.F a) (n1 : a ∉ Z.ow O) (n2 : a ∉ G.M) (fr : fresh G0 O0 a) :
    StRep W ⟨G.H, G.F, G.M ++ [a]⟩ { s with S := s.S ++ [c] } σ O ∧ Frm G0 (Z.ow O0) ⟨G.H, G.F, G.M ++ [a]⟩ (Z.ow O) ∧ Rep W ⟨G.H, G.F, G.M ++ [a]⟩ (.ref s.S.length) (.ref a) := by
  have k : Keep G ⟨G.H, G.F, G.M ++ [a]⟩ := ⟨fun _ _ e _ => e, fun _ h => ⟨h, rfl⟩, fun n b e => by
    show (G.M ++ [a])[n]? = some b
    rw [List.getElem?_append_left ((List.getElem?_eq_some_iff.mp e).1)]; exact e⟩
  have last : (G.M ++ [a])[s.S.length]? = some a := by
    rw [← r.lenM]; simp
  refine ⟨⟨r.len, r.lenO, fun j x hx => ?_, ?_, fun n x hx => ?_, ?_, r.dom⟩, ⟨f.keep.trans k, f.rest, f.fz, f.ow, fun b hb => ?_, f.dm⟩, ?_⟩
  · obtain ⟨v, o, e1, e2, e3⟩ := r.slots j x hx
    refine ⟨v, o, e1, e2, ?_⟩
    cases x with
    | no => exact e3
    | sh d => obtain ⟨z, y, z1, z2⟩ := e3; exact ⟨z, y, z1, Rep.keep k d y z2⟩
    | own c2 =>
      obtain ⟨b, z1, z2, z3, z4⟩ := e3
      exact ⟨b, z1, z2, z3.keep k rfl, z4⟩
  · show (G.M ++ [a]).length = (s.S ++ [c]).length
    simp [r.lenM]
  · have hx : (s.S ++ [c])[n]? = some x := hx
    by_cases hn : n < s.S.length
    · rw [List.getElem?_append_left hn] at hx
      obtain ⟨b, z1, z2, z3⟩ := r.cells n x hx
      exact ⟨b, k.mm n b z1, z2.keep k rfl, z3⟩
    · have hn' : n = s.S.length := by
        have := (List.getElem?_eq_some_iff.mp hx).1
        simp at this; omega
      subst hn'
      simp at hx
      subst hx
      exact ⟨a, last, h.keep k rfl, nf⟩
  · obtain ⟨m1, m2, m3⟩ := List.nodup_append.mp r.nd
    refine List.nodup_append.mpr ⟨m1, List.nodup_append.mpr ⟨m2, by simp, fun x hx y hy => ?_⟩, fun x hx y hy => ?_⟩
    · rw [List.mem_singleton] at hy
      subst hy
      exact fun z => n2 (z ▸ hx)
    · have hy : y ∈ G.M ++ [a] := hy
      rcases List.mem_append.mp hy with hy | hy
      · exact m3 x hx y hy
      · rw [List.mem_singleton] at hy
        subst hy
        exact fun z => n1 (z ▸ hx)
  · have hb : b ∈ G.M ++ [a] := hb
    rcases List.mem_append.mp hb with hb | hb
    · exact f.mm b hb
    · rw [List.mem_singleton] at hb
      subst hb
      exact .inr fr
  · simp only [Rep]
    exact ⟨a, rfl, last⟩
theorem z_cell {i : E} {e : Expr} (h : PE X e (tE W wx (ev P i))) : PE X e (tE W wx (ev P (.cell i))) := by
  refine pe_weak h fun σ H Q q => ?_
  obtain ⟨G, O, s, e0, r, q⟩ := q
  refine ⟨G, O, s, e0, r, ?_⟩
  simp only [ev] at q
  cases e1 : ev P i s with
  | stuck => rw [e1] at q; exact q
  | exn x s1 => rw [e1] at q; exact q
  | ok x s1 =>
    rw [e1] at q
    intro v G1 O1 fr r1 rr
    simp only [Res.bind] at q
    split at q
    · rename_i hx
      unfold RO at rr
      rw [if_pos hx] at rr
      obtain ⟨c, a, h1, rfl, h3, h4, h5, h6, h7⟩ := rr
      rw [h1] at q
      simp only at q
      obtain ⟨g1, g2, g3⟩ := StRep.cell fr r1 h3 h4 h5 h6 h7
      exact q (.ref a) ⟨G1.H, G1.F, G1.M ++ [a]⟩ O1 g2 g1 (ro_val g3)
    · exact q.elim
/-! ### a comprehension's block -/
theorem relS_look {scope sc : Scope} {x : Str} {kd : NameKind} (hk : kd ≠ .free) (h : scope.names.lookup x = some kd) : (relS scope sc).names.lookup x = some kd := by
  have gen : ∀ l : List (Str × NameKind), l.lookup x = some kd → (l.map fun (n, k) => if (k == .free && sc.kind == .function && sc.names.lookup n == some .cell) then (n, NameKind.cell) else (n, k)).lookup x = some kd := by
    intro l
    induction l with
    | nil => intro h; simp at h
    | cons p l ih =>
      obtain ⟨n, kk⟩ := p
      intro h
      rw [List.lookup_cons] at h
      simp only [List.map_cons]
      split at h
      · rename_i hn
        cases h
        have hkf : (kd == NameKind.free) = false := by simpa using hk
        simp only [hkf, Bool.false_and, Bool.false_eq_true, if_false]
        rw [List.lookup_cons, hn]
      · rename_i hn
        split <;> (rw [List.lookup_cons, hn]; exact ih h)
  exact gen _ h
theorem Cok.blk (C : Cok W nm t k wx N sc ws X) (s : Shared) (H : Hp) (scope : Scope) (C' : Addr) (cl : List (Str × Addr)) (fp : List Addr) : Cok W nm t k wF N (relS scope sc) scope (X.blk s H scope (compEnvC scope cl C' X.env) fp) where
  eK := C.eK
  eN := C.eN
  nd := C.nd
  eS := by rw [← C.eS]; rfl
  calm := C.calm
  room := C.room
  tk := fun u s' ⟨_, _, _, _, _, _, _, _, _, _, _, _, _, _, _, _, w⟩ => w.elim
  flen := C.flen
  fns := fun f fn h => ⟨(C.fns f fn h).ex⟩
  gls := C.gls
  blt := C.blt
  fa := C.fa
  exc := C.exc
  kds := C.kds
  wr := fun x h => by
    have e : (X.blk s H scope (compEnvC scope cl C' X.env) fp).env.scope = relS scope X.env.scope := rfl
    unfold locB at h
    split at h
    · rename_i hx
      have := relS_look (sc := X.env.scope) (by decide) hx
      exact ⟨.inl this, .inr this⟩
    · rename_i hx
      have := relS_look (sc := X.env.scope) (by decide) hx
      refine ⟨.inr this, .inl ?_⟩
      show (scope.names.lookup x == some .cell) = true
      rw [hx]; decide
    · cases h
/-! ### no star -/
theorem shape_ns {p : Prim} {e : Expr} {es : List Expr} (h : shape sc p e = some es) : nstar e = true := by
  cases e <;> first | rfl | (exfalso; cases p <;> simp [shape] at h)
theorem mshape_ns {n : String} {e : Expr} {es : Expr × List Expr} (h : mshape n e = some es) : nstar e = true := by
  cases e <;> first | rfl | (simp [mshape] at h)
theorem chk_ns : ∀ (i : E) (e : Expr), chkE nm N sc e i = true → nstar e = true
  | .cell i, e, h => chk_ns i e (by simpa only [chkE] using h)
  | .v _, e, h => by cases e <;> first | rfl | (simp [chkE, isVar] at h)
  | .lit _, e, h => by cases e <;> first | rfl | (simp [chkE] at h)
  | .g _, e, h => by cases e <;> first | rfl | (simp [chkE, isGl] at h)
  | .fn _, e, h => by cases e <;> first | rfl | (simp [chkE, isGl] at h)
  | .pr p es, e, h => by
    simp only [chkE] at h
    split at h
    · rename_i es' hs; exact shape_ns hs
    · cases h
  | .sl _ _ _, e, h => by cases e <;> first | rfl | (simp [chkE] at h)
  | .mp m o is, e, h => by
    simp only [chkE] at h
    split at h
    · rename_i x es' hs; exact mshape_ns hs
    · cases h
  | .mu m o is, e, h => by
    simp only [chkE] at h
    split at h
    · rename_i x es' hs; exact mshape_ns hs
    · cases h
  | .tup _, e, h => by cases e <;> first | rfl | (simp [chkE] at h)
  | .lst _, e, h => by cases e <;> first | rfl | (simp [chkE] at h)
  | .dct _ _, e, h => by cases e <;> first | rfl | (simp [chkE] at h)
  | .dcomp _ _ _ _ _ _, e, h => by cases e <;> first | rfl | (simp [chkE] at h)
  | .kin _ _ _, e, h => by cases e <;> first | rfl | (simp [chkE] at h)
  | .kix _ _, e, h => by cases e <;> first | rfl | (simp [chkE] at h)
  | .call _ _, e, h => by cases e <;> first | rfl | (simp [chkE] at h)
  | .callv _ _, e, h => by cases e <;> first | rfl | (simp [chkE] at h)
  | .notV _, e, h => by cases e <;> first | rfl | (simp [chkE] at h)
  | .bopV _ _, e, h => by cases e <;> first | rfl | (simp [chkE] at h)
  | .ite _ _ _, e, h => by cases e <;> first | rfl | (simp [chkE] at h)
  | .comp _ _ _ _ _, e, h => by cases e <;> first | rfl | (simp [chkE] at h)
  | .fld _ _, e, h => by simp [chkE] at h
  | .mk _ _, e, h => by simp [chkE] at h
  | .mc _ _ _, e, h => by simp [chkE] at h
theorem fold_of {e : Expr} {env : Env} (h : notSet e = true) : ∀ x, foldedSetIterable e env x = pure x := by
  intro x
  cases e <;> first | rfl | cases h
theorem pts_of {is : List T} {es : List Expr} (h : TOks W wx X P is es) : PTs X es (tB W wx (evts P is)) := by
  cases h with
  | nil => exact ⟨fun pins s σ H Q I q => by
      obtain ⟨G, O, z, rfl, r, q⟩ := q
      exact pts_nil.run pins s σ _ Q I (Out.refl_ok (b := true) r q rfl)⟩
  | cons h1 h2 =>
    cases h2 with
    | nil => exact pts_one h1.pt
    | cons h2 h3 => exact ⟨fun pins s σ H Q I q => by
        obtain ⟨G, O, z, rfl, r, q⟩ := q
        exact q.elim⟩
theorem isTup_of {e : Expr} (h : isTupE e = true) : ∃ elts kk pos, e = .Tuple elts kk pos := by
  cases e <;> first | exact ⟨_, _, _, rfl⟩ | cases h
mutual
theorem sndE : ∀ (i : E) (e : Expr) (wx : WX) (sc ws : Scope) (X : Cx), Cok W nm t k wx N sc ws X → chkE nm N sc e i = true → EOk W wx X (prog t k) i e
  | .v j, e, wx, sc, ws, X, C, h => ⟨z_var C (by simpa only [chkE] using h), fun j' hj => by cases hj; exact pe_varZ C (by simpa only [chkE] using h), chk_ns _ _ h⟩
  | .lit d, e, wx, sc, ws, X, C, h => by
    refine ⟨?_, fun j hj => (by cases hj), chk_ns _ _ h⟩
    cases e <;> first | (simp [chkE] at h; done) | skip
    exact z_lit (by simpa only [chkE] using h)
  | .g n, e, wx, sc, ws, X, C, h => ⟨z_glob C (by simpa only [chkE] using h), fun j hj => (by cases hj), chk_ns _ _ h⟩
  | .fn f, e, wx, sc, ws, X, C, h => by
    refine ⟨?_, fun j hj => (by cases hj), chk_ns _ _ h⟩
    have hf : isGl nm.fn sc f e = true := by simpa only [chkE] using h
    obtain ⟨x, p, rfl, h1, _⟩ := isGl_of C hf
    have := (List.getElem?_eq_some_iff.mp h1).1
    rw [C.flen] at this
    exact z_fn C hf this
  | .pr p is, e, wx, sc, ws, X, C, h => by
    refine ⟨?_, fun j hj => (by cases hj), chk_ns _ _ h⟩
    simp only [chkE] at h
    split at h
    · rename_i es hs
      exact z_prim C hs (sndEs is es wx sc ws X C h)
    · cases h
  | .sl a lo hi, e, wx, sc, ws, X, C, h => by
    refine ⟨?_, fun j hj => (by cases hj), chk_ns _ _ h⟩
    simp only [chkE] at h
    split at h
    · simp only [Bool.and_eq_true] at h
      exact z_sl C (sndE a _ wx sc ws X C h.1.1) (sndO lo _ wx sc ws X C h.1.2) (sndO hi _ wx sc ws X C h.2)
    · cases h
  | .mp m o is, e, wx, sc, ws, X, C, h => by
    refine ⟨?_, fun j hj => (by cases hj), chk_ns _ _ h⟩
    simp only [chkE] at h
    split at h
    · rename_i x es hs
      simp only [Bool.and_eq_true, beq_iff_eq] at h
      exact z_mp C hs h.1.1 (sndE o _ wx sc ws X C h.1.2) (sndEs is _ wx sc ws X C h.2)
    · cases h
  | .mu m o is, e, wx, sc, ws, X, C, h => by
    refine ⟨?_, fun j hj => (by cases hj), chk_ns _ _ h⟩
    simp only [chkE] at h
    split at h
    · rename_i x es hs
      simp only [Bool.and_eq_true, beq_iff_eq] at h
      exact z_mu C hs h.1.1 (sndE o _ wx sc ws X C h.1.2) (sndEs is _ wx sc ws X C h.2)
    · cases h
  | .tup is, e, wx, sc, ws, X, C, h => by
    refine ⟨?_, fun j hj => (by cases hj), chk_ns _ _ h⟩
    simp only [chkE] at h
    split at h
    · exact z_tup (sndEs is _ wx sc ws X C h)
    · cases h
  | .lst is, e, wx, sc, ws, X, C, h => by
    refine ⟨?_, fun j hj => (by cases hj), chk_ns _ _ h⟩
    simp only [chkE] at h
    split at h
    · exact z_lst (sndEs is _ wx sc ws X C h)
    · cases h
  | .dct ks is, e, wx, sc, ws, X, C, h => by
    refine ⟨?_, fun j hj => (by cases hj), chk_ns _ _ h⟩
    simp only [chkE] at h
    split at h
    · simp only [Bool.and_eq_true, decide_eq_true_eq] at h
      exact z_dct C h.1.1.1 h.1.1.2 h.1.2 (sndEs is _ wx sc ws X C h.2)
    · cases h
  | .kin ng g x, e, wx, sc, ws, X, C, h => by
    refine ⟨?_, fun j hj => (by cases hj), chk_ns _ _ h⟩
    simp only [chkE] at h
    split at h
    · simp only [Bool.and_eq_true, decide_eq_true_eq] at h
      obtain ⟨⟨rfl, h1⟩, h2⟩ := h
      exact z_kin C h1 (sndE x _ wx sc ws X C h2)
    · cases h
  | .kix g x, e, wx, sc, ws, X, C, h => by
    refine ⟨?_, fun j hj => (by cases hj), chk_ns _ _ h⟩
    simp only [chkE] at h
    split at h
    · simp only [Bool.and_eq_true] at h
      exact z_kix C h.1.1 h.1.2 (sndE x _ wx sc ws X C h.2)
    · cases h
  | .dcomp tg vs it ifs y x, e, wx, sc, ws, X, C, h => by
    refine ⟨?_, fun j hj => (by cases hj), chk_ns _ _ h⟩
    simp only [chkE] at h
    split at h
    · rename_i ke elt te ie ce kz scope pos
      simp only [Bool.and_eq_true, beq_iff_eq, List.all_eq_true, decide_eq_true_eq] at h
      obtain ⟨⟨⟨⟨⟨⟨⟨⟨⟨⟨rfl, h1⟩, h2⟩, h3⟩, h4⟩, h5⟩, h6⟩, h7⟩, h8⟩, h9⟩, h10⟩ := h
      have own : (vs.map fun v => (N.getD v Str.empty, v)).map (·.2) = vs := by
        rw [List.map_map]
        exact List.map_id vs
      have hb : BlkOk X.N X.env.scope scope (vs.map fun v => (N.getD v Str.empty, v)) := by
        rw [C.eN, C.eS]; exact blkOk_by h4
      refine pe_weak (pe_dc (g := tG W tg) (tt := tB W wF (evts (prog t k) ifs)) (tk := tV W wF (ev (prog t k) y)) (tv := tV W wF (ev (prog t k) x)) C.calm (by rw [C.eN]; exact C.nd) (sndI it ie te wx sc ws X C h2 h1) hb
        (fun s H C' cl fp => z_tg (C.blk s H scope C' cl fp) te tg h5) (fun s H C' cl fp => pts_of (sndTs ifs ce wF _ _ _ (C.blk s H scope C' cl fp) h7))
        (fun s H C' cl fp => (sndE y ke wF _ _ _ (C.blk s H scope C' cl fp) h8).pv)
        (fun s H C' cl fp => (sndE x elt wF _ _ _ (C.blk s H scope C' cl fp) h9).pv) (fold_of h3)) fun σ H Q q => ?_
      rw [own]
      exact dc_w h6 q
    · cases h
  | .cell i, e, wx, sc, ws, X, C, h => by
    refine ⟨?_, fun j hj => (by cases hj), chk_ns _ _ h⟩
    simp only [chkE] at h
    exact z_cell (sndE i e wx sc ws X C h).pe
  | .call f is, e, wx, sc, ws, X, C, h => by
    refine ⟨?_, fun j hj => (by cases hj), chk_ns _ _ h⟩
    simp only [chkE] at h
    split at h
    · simp only [Bool.and_eq_true] at h
      have hf := h.1
      obtain ⟨x, p, rfl, h1, _⟩ := isGl_of C hf
      have := (List.getElem?_eq_some_iff.mp h1).1
      rw [C.flen] at this
      exact z_fcall C this hf (sndEs is _ wx sc ws X C h.2)
    · cases h
  | .callv j is, e, wx, sc, ws, X, C, h => by
    refine ⟨?_, fun j hj => (by cases hj), chk_ns _ _ h⟩
    simp only [chkE] at h
    split at h
    · simp only [Bool.and_eq_true, Bool.not_eq_true', List.isEmpty_eq_false_iff] at h
      exact z_fcallv C h.1.1 h.1.2 (sndEs is _ wx sc ws X C h.2)
    · cases h
  | .notV i, e, wx, sc, ws, X, C, h => by
    refine ⟨?_, fun j hj => (by cases hj), chk_ns _ _ h⟩
    simp only [chkE] at h
    split at h
    · exact z_notV C (sndE i _ wx sc ws X C h)
    · cases h
  | .bopV b is, e, wx, sc, ws, X, C, h => by
    refine ⟨?_, fun j hj => (by cases hj), chk_ns _ _ h⟩
    simp only [chkE] at h
    split at h
    · simp only [Bool.and_eq_true] at h
      have hh := sndEs is _ wx sc ws X C h.2
      cases is with
      | nil => exact ⟨fun pins s σ H Q I q => by
          obtain ⟨G, O, z, rfl, r, q⟩ := q
          exact q.elim⟩
      | cons i is => exact z_bopV h.1 hh (by simp)
    · cases h
  | .ite c a b, e, wx, sc, ws, X, C, h => by
    refine ⟨?_, fun j hj => (by cases hj), chk_ns _ _ h⟩
    simp only [chkE] at h
    split at h
    · simp only [Bool.and_eq_true] at h
      exact z_ite (sndT c _ wx sc ws X C h.1.1) (sndE a _ wx sc ws X C h.1.2) (sndE b _ wx sc ws X C h.2)
    · cases h
  | .comp tg vs it ifs x, e, wx, sc, ws, X, C, h => by
    refine ⟨?_, fun j hj => (by cases hj), chk_ns _ _ h⟩
    simp only [chkE] at h
    split at h
    · rename_i elt te ie ce kz scope pos
      simp only [Bool.and_eq_true, beq_iff_eq, List.all_eq_true, decide_eq_true_eq] at h
      obtain ⟨⟨⟨⟨⟨⟨⟨⟨⟨rfl, h1⟩, h2⟩, h3⟩, h4⟩, h5⟩, h6⟩, h7⟩, h8⟩, h9⟩ := h
      have own : (vs.map fun v => (N.getD v Str.empty, v)).map (·.2) = vs := by
        rw [List.map_map]
        exact List.map_id vs
      have hb : BlkOk X.N X.env.scope scope (vs.map fun v => (N.getD v Str.empty, v)) := by
        rw [C.eN, C.eS]; exact blkOk_by h4
      refine pe_weak (pe_lc (g := tG W tg) (tt := tB W wF (evts (prog t k) ifs)) (te := tV W wF (ev (prog t k) x)) C.calm (by rw [C.eN]; exact C.nd) (sndI it ie te wx sc ws X C h2 h1) hb
        (fun s H C' cl fp => z_tg (C.blk s H scope C' cl fp) te tg h5) (fun s H C' cl fp => pts_of (sndTs ifs ce wF _ _ _ (C.blk s H scope C' cl fp) h7))
        (fun s H C' cl fp => (sndE x elt wF _ _ _ (C.blk s H scope C' cl fp) h8).pv) (fold_of h3)) fun σ H Q q => ?_
      rw [own]
      exact lc_w h6 q
    · cases h
  | .fld _ _, e, wx, sc, ws, X, C, h => by simp [chkE] at h
  | .mk _ _, e, wx, sc, ws, X, C, h => by simp [chkE] at h
  | .mc _ _ _, e, wx, sc, ws, X, C, h => by simp [chkE] at h
theorem sndO : ∀ (i : Option E) (e : Option Expr) (wx : WX) (sc ws : Scope) (X : Cx), Cok W nm t k wx N sc ws X → chkO nm N sc e i = true → OOk W wx X (prog t k) i e
  | none, e, wx, sc, ws, X, C, h => by
    cases e with
    | none => exact oOk_none
    | some e => simp [chkO] at h
  | some i, e, wx, sc, ws, X, C, h => by
    cases e with
    | none => simp [chkO] at h
    | some e => exact oOk_some (sndE i e wx sc ws X C (by simpa only [chkO] using h)).pe
theorem sndEs : ∀ (is : List E) (es : List Expr) (wx : WX) (sc ws : Scope) (X : Cx), Cok W nm t k wx N sc ws X → chkEs nm N sc es is = true → EOks W wx X (prog t k) is es
  | [], es, wx, sc, ws, X, C, h => by
    cases es with
    | nil => exact .nil
    | cons e es => simp [chkEs] at h
  | i :: is, es, wx, sc, ws, X, C, h => by
    cases es with
    | nil => simp [chkEs] at h
    | cons e es =>
      simp only [chkEs, Bool.and_eq_true] at h
      exact .cons (sndE i e wx sc ws X C h.1.1) (sndEs is es wx sc ws X C h.2)
theorem sndT : ∀ (i : T) (e : Expr) (wx : WX) (sc ws : Scope) (X : Cx), Cok W nm t k wx N sc ws X → chkT nm N sc e i = true → TOk W wx X (prog t k) i e
  | .cmp op a b, e, wx, sc, ws, X, C, h => by
    simp only [chkT] at h
    split at h
    · simp only [Bool.and_eq_true, decide_eq_true_eq, Bool.not_eq_true'] at h
      obtain ⟨⟨⟨rfl, h1⟩, h2⟩, h3⟩ := h
      exact z_tcmp C (sndE a _ wx sc ws X C h2) (sndE b _ wx sc ws X C h3) h1
    · cases h
  | .e a, e, wx, sc, ws, X, C, h => by
    simp only [chkT, Bool.and_eq_true] at h
    exact z_te C (sndE a _ wx sc ws X C h.2) h.1
  | .not c, e, wx, sc, ws, X, C, h => by
    simp only [chkT] at h
    split at h
    · exact z_tnot (sndT c _ wx sc ws X C h)
    · cases h
  | .kin ng g x, e, wx, sc, ws, X, C, h => by
    simp only [chkT] at h
    split at h
    · simp only [Bool.and_eq_true, decide_eq_true_eq] at h
      obtain ⟨⟨rfl, h1⟩, h2⟩ := h
      exact z_tkin C h1 (sndE x _ wx sc ws X C h2)
    · cases h
  | .isN ng x, e, wx, sc, ws, X, C, h => by
    simp only [chkT] at h
    split at h
    · simp only [Bool.and_eq_true, decide_eq_true_eq] at h
      obtain ⟨rfl, h1⟩ := h
      exact z_tisN (sndE x _ wx sc ws X C h1)
    · cases h
  | .bop b ts, e, wx, sc, ws, X, C, h => by
    simp only [chkT] at h
    split at h
    · simp only [Bool.and_eq_true] at h
      have hh := sndTs ts _ wx sc ws X C h.2
      cases ts with
      | nil => exact ⟨⟨fun pins s σ H Q I q => by
          obtain ⟨G, O, z, rfl, r, q⟩ := q
          exact q.elim⟩⟩
      | cons i is => exact ⟨(z_tbop h.1 hh (by simp)).pt⟩
    · cases h
theorem sndTs : ∀ (is : List T) (es : List Expr) (wx : WX) (sc ws : Scope) (X : Cx), Cok W nm t k wx N sc ws X → chkTs nm N sc es is = true → TOks W wx X (prog t k) is es
  | [], es, wx, sc, ws, X, C, h => by
    cases es with
    | nil => exact .nil
    | cons e es => simp [chkTs] at h
  | i :: is, es, wx, sc, ws, X, C, h => by
    cases es with
    | nil => simp [chkTs] at h
    | cons e es =>
      simp only [chkTs, Bool.and_eq_true] at h
      exact .cons (sndT i e wx sc ws X C h.1.1) (sndTs is es wx sc ws X C h.2)
theorem sndI : ∀ (i : It) (e tg : Expr) (wx : WX) (sc ws : Scope) (X : Cx), Cok W nm t k wx N sc ws X → itTg i tg = true → chkIt nm N sc e i = true → PI X tg e (tI W wx (evit (prog t k) i))
  | .seq i, e, tg, wx, sc, ws, X, C, ht, h => z_iseq C (sndE i e wx sc ws X C (by simpa only [chkIt] using h))
  | .rng is, e, tg, wx, sc, ws, X, C, ht, h => by
    simp only [chkIt] at h
    split at h
    · rename_i es hs
      simp only [Bool.and_eq_true, decide_eq_true_eq] at h
      exact z_irng C hs (sndEs is _ wx sc ws X C h.2) h.1
    · cases h
  | .enum i, e, tg, wx, sc, ws, X, C, ht, h => by
    simp only [chkIt] at h
    split at h
    · rename_i a hs
      exact z_ienum C hs (sndE i a wx sc ws X C h) (isTup_of ht)
    · cases h
  | .zip i j, e, tg, wx, sc, ws, X, C, ht, h => by
    simp only [chkIt] at h
    split at h
    · rename_i a b hs
      simp only [Bool.and_eq_true] at h
      exact z_izip C hs (sndE i a wx sc ws X C h.1) (sndE j b wx sc ws X C h.2) (isTup_of ht)
    · cases h
end
end
end Z

set_option Elab.async false
set_option linter.all false
set_option maxRecDepth 100000
set_option maxHeartbeats 4000000
set_option autoImplicit false
/-! ZSnd9: statements: readings and rules. -/
namespace Z
open PySem PySem.Spec PyProof.Rows L2
/-- what a return gives -/
def RetRep (W : Wo) (G : Gh) (O : List (Option Addr)) (G' : Gh) (o : Bool) (d : D) (v : V) : Prop :=
  if o = true then ∃ c a, toCell d = some c ∧ v = .ref a ∧ CRep W G' c a ∧ ¬ G'.F a ∧ a ∉ G'.M ∧ fresh G O a else Rep W G' d v
def OutS (W : Wo) (wx : WX) (G : Gh) (O : List (Option Addr)) (D : Ends) : RS → Prop
  | .next s' => ∀ σ' G' O', Frm G (Z.ow O) G' (Z.ow O') → StRep W G' s' σ' O' → D.nx σ' G'.H
  | .brk s' => ∀ σ' G' O', Frm G (Z.ow O) G' (Z.ow O') → StRep W G' s' σ' O' → D.bk σ' G'.H
  | .cnt s' => ∀ σ' G' O', Frm G (Z.ow O) G' (Z.ow O') → StRep W G' s' σ' O' → D.ct σ' G'.H
  | .ret o d s' => ∀ v σ' G' O', Frm G (Z.ow O) G' (Z.ow O') → StRep W G' s' σ' O' → RetRep W G O G' o d v → D.rt v G'.H
  | .exn x s' => ∀ σ' G' O', Frm G (Z.ow O) G' (Z.ow O') → StRep W G' s' σ' O' → ∀ cls dx, XRep W G' x cls dx → wx cls dx σ' G'.H
  | .stuck => False
theorem RetRep.mono {W : Wo} {G G1 G2 : Gh} {O O1 : List (Option Addr)} {o : Bool} {d : D} {v : V} (f : Frm G (Z.ow O) G1 (Z.ow O1)) (h : RetRep W G1 O1 G2 o d v) : RetRep W G O G2 o d v := by
  unfold RetRep at h ⊢
  split
  · rename_i e
    rw [if_pos e] at h
    obtain ⟨c, a, h1, h2, h3, h4, h5, h6⟩ := h
    exact ⟨c, a, h1, h2, h3, h4, h5, h6.mono f⟩
  · rename_i e
    rw [if_neg e] at h
    exact h
section
variable {W : Wo} {wx : WX} {G G1 : Gh} {O O1 : List (Option Addr)} {σ : L2.St} {D : Ends}
theorem OutS.shift (f : Frm G (Z.ow O) G1 (Z.ow O1)) {r : RS} (h : OutS W wx G O D r) : OutS W wx G1 O1 D r := by
  cases r with
  | next s => exact fun σ' G' O' fr sr => h σ' G' O' (f.trans fr) sr
  | brk s => exact fun σ' G' O' fr sr => h σ' G' O' (f.trans fr) sr
  | cnt s => exact fun σ' G' O' fr sr => h σ' G' O' (f.trans fr) sr
  | ret o d s => exact fun v σ' G' O' fr sr rr => h v σ' G' O' (f.trans fr) sr (rr.mono f)
  | exn x s => exact fun σ' G' O' fr sr => h σ' G' O' (f.trans fr) sr
  | stuck => exact h
theorem Out.then {γ δ : Type} {R1 : Gh → List (Option Addr) → Gh → List (Option Addr) → Sta → γ → δ → Prop} {Q1 : δ → Hp → Prop} {r : Res γ} {k : γ → Sta → RS} (h : OutS W wx G O D (r.then k))
    (hk : ∀ a s1, r = .ok a s1 → ∀ b G1 O1, Frm G (Z.ow O) G1 (Z.ow O1) → StRep W G1 s1 σ O1 → R1 G O G1 O1 s1 a b → OutS W wx G1 O1 D (k a s1) → Q1 b G1.H) : Out W wx G O σ R1 Q1 r := by
  cases r with
  | ok a s => exact fun b G1 O1 fr sr rr => hk a s rfl b G1 O1 fr sr rr (OutS.shift fr h)
  | exn x s => exact fun G' O' fr sr => h σ G' O' fr sr
  | stuck => exact h
end
def tS (W : Wo) (wx : WX) (f : Sta → RS) : TS := fun D σ H => ∃ (G : Gh) (O : List (Option Addr)) (s : Sta), G.H = H ∧ StRep W G s σ O ∧ OutS W wx G O D (f s)
section
variable {W : Wo} {wx : WX} {X : Cx} {P : Prog} {nm : Nm} {t : Tbl} {k : Nat} {N : List Str} {sc ws : Scope}
/-- what is asked of a def's own context -/
structure Sok (X : Cx) : Prop where
  pa : PassesOwn (model X.prog X.w) X.A X.env X.xe
  stk : X.stack = X.env :: X.outer
  frm : X.env.frame = some X.env.locals
/-! ### the end of a store -/
theorem bind_end {i : Nat} {o : Bool} {d : D} {v : V} {G0 G : Gh} {O0 O : List (Option Addr)} {s : Sta} {σ : L2.St} {D : Ends} (f : Frm G0 (Z.ow O0) G (Z.ow O)) (r : StRep W G s σ O) (rr : RO W G0 O0 G O s (o, d) v) (h : OutS W wx G0 O0 D (bindTo i o d s)) : D.nx (σ.set i (some v)) G.H := by
  unfold bindTo at h
  split at h
  · rename_i hi
    cases o with
    | false =>
      have rr : Rep W G d v := rr
      exact h _ G _ (f.trans frm_put) (r.put hi rr)
    | true =>
      obtain ⟨c, a, h1, rfl, h3, h4, h5, h6, h7⟩ := (show OwnRep W G0 O0 G O d v from rr)
      rw [h1] at h
      exact h _ G _ (frm_putO f h7) (r.putO hi h3 h4 h5 h6)
  · exact h.elim
/-! ### small statements -/
theorem s_nil : PSs X [] (tS W wx (execs P [])) := pss_weak pss_nil fun D σ H q => by
  obtain ⟨G, O, s, rfl, r, q⟩ := q
  exact q σ G O (.refl G _) r
theorem s_cons {st : Stmt} {rest : List Stmt} {x : S} {xs : List S} (h1 : PS X st (tS W wx (exec P x))) (h2 : PSs X rest (tS W wx (execs P xs))) : PSs X (st :: rest) (tS W wx (execs P (x :: xs))) := pss_weak (pss_cons h1 h2) fun D σ H q => by
  obtain ⟨G, O, s, rfl, r, q⟩ := q
  refine ⟨G, O, s, rfl, r, ?_⟩
  simp only [execs] at q
  cases e : exec P x s with
  | next s1 =>
    rw [e] at q
    exact fun σ' G' O' fr sr => ⟨G', O', s1, rfl, sr, OutS.shift fr q⟩
  | brk s1 => rw [e] at q; exact q
  | cnt s1 => rw [e] at q; exact q
  | ret o d s1 => rw [e] at q; exact q
  | exn y s1 => rw [e] at q; exact q
  | stuck => rw [e] at q; exact q
theorem s_pass {pos : Pos} : PS X (.Pass pos) (tS W wx (exec P .pass)) := ps_weak ps_pass fun D σ H q => by
  obtain ⟨G, O, s, rfl, r, q⟩ := q
  exact q σ G O (.refl G _) r
theorem s_brk {pos : Pos} : PS X (.Break pos) (tS W wx (exec P .brk)) := ps_weak ps_break fun D σ H q => by
  obtain ⟨G, O, s, rfl, r, q⟩ := q
  exact q σ G O (.refl G _) r
theorem s_cnt {pos : Pos} : PS X (.Continue pos) (tS W wx (exec P .cnt)) := ps_weak ps_continue fun D σ H q => by
  obtain ⟨G, O, s, rfl, r, q⟩ := q
  exact q σ G O (.refl G _) r
def notComp : Expr → Bool
  | .ListComp _ _ _ _ => false
  | .SetComp _ _ _ _ => false
  | .DictComp _ _ _ _ _ => false
  | _ => true
theorem swap_of {e : Expr} {tg : Option Expr} {l : Nat} {env : Env} (h : notComp e = true) : swapsWith e tg l env = pure false := by
  cases e <;> first | rfl | cases h
theorem s_exp {i : E} {e : Expr} {pos : Pos} (h : EOk W wx X P i e) (hn : notComp e = true) : PS X (.Expr e pos) (tS W wx (exec P (.exp i))) := ps_weak (ps_expr h.pv (swap_of hn)) fun D σ H q => by
  obtain ⟨G, O, s, e, r, q⟩ := q
  refine ⟨G, O, s, e, r, ?_⟩
  simp only [exec] at q
  exact Out.then q fun a s1 _ x G1 O1 fr r1 rr q1 => q1 σ G1 O1 (.refl G1 _) r1
theorem s_retN {pos : Pos} : PS X (.Return none pos) (tS W wx (exec P .retN)) := ps_weak ps_retN fun D σ H q => by
  obtain ⟨G, O, s, rfl, r, q⟩ := q
  exact q .non σ G O (.refl G _) r (show Rep W G .non .non from rep_non)
theorem s_ret {i : E} {e : Expr} {pos : Pos} (h : EOk W wx X P i e) : PS X (.Return (some e) pos) (tS W wx (exec P (.ret i))) := by
  have gen : (∀ s, exec P (.ret i) s = (ev P i s).then fun x s1 => .ret x.1 x.2 s1) → PS X (.Return (some e) pos) (tS W wx (exec P (.ret i))) := fun eq => ps_weak (ps_ret h.pe) fun D σ H q => by
    obtain ⟨G, O, s, e, r, q⟩ := q
    refine ⟨G, O, s, e, r, ?_⟩
    rw [eq] at q
    cases e1 : ev P i s with
    | stuck => rw [e1] at q; exact q
    | exn y s1 => rw [e1] at q; exact fun G' O' fr sr => q σ G' O' fr sr
    | ok x s1 =>
      rw [e1] at q
      intro v G1 O1 fr r1 rr
      refine q v σ G1 O1 fr r1 ?_
      unfold RO at rr
      unfold RetRep
      split
      · rename_i hx
        rw [if_pos hx] at rr
        obtain ⟨c, a, h1, h2, h3, h4, h5, h6, h7⟩ := rr
        exact ⟨c, a, h1, h2, h3, h4, h6, h7⟩
      · rename_i hx
        rw [if_neg hx] at rr
        exact rr
  cases i with
  | v j =>
    refine ps_weak (ps_ret (h.var j rfl)) fun D σ H q => ?_
    obtain ⟨G, O, s, rfl, r, q⟩ := q
    simp only [exec] at q
    cases e1 : s.σ[j]? with
    | none => rw [e1] at q; exact q.elim
    | some x =>
      rw [e1] at q
      cases x with
      | no => exact q.elim
      | sh d =>
        obtain ⟨v, o, h1, h2, _, y, rfl, ry⟩ := r.slots j _ e1
        exact ⟨y, h1, q y σ G O (.refl G _) r ry⟩
      | own c =>
        obtain ⟨a, h1, h2, h3, h4, h5, h6⟩ := own_in r e1
        refine ⟨.ref a, h2, ?_⟩
        simp only at q
        cases e2 : c.view with
        | none => rw [e2] at q; exact q.elim
        | some d =>
          rw [e2] at q
          refine q (.ref a) σ G O (.refl G _) r ?_
          unfold RetRep
          rw [if_pos rfl]
          refine ⟨c, a, ?_, rfl, h3, h4, h6, .inl h5⟩
          cases c <;> first | (cases e2; done) | (cases e2; rfl)
  | _ => exact gen fun s => rfl
theorem s_ife {i : T} {a b : List S} {c : Expr} {x y : List Stmt} {pos : Pos} (hc : TOk W wx X P i c) (ha : PSs X x (tS W wx (execs P a))) (hb : PSs X y (tS W wx (execs P b))) : PS X (.If c x y pos) (tS W wx (exec P (.ife i a b))) := ps_weak (ps_if hc.pt ha hb) fun D σ H q => by
  obtain ⟨G, O, s, e, r, q⟩ := q
  refine ⟨G, O, s, e, r, ?_⟩
  simp only [exec] at q
  refine Out.then q fun a s1 _ x G1 O1 fr r1 rr q1 => ?_
  have rr : a = x := rr
  subst rr
  split at q1
  · rename_i ec
    rw [if_pos ec]
    exact ⟨G1, O1, s1, rfl, r1, q1⟩
  · rename_i ec
    rw [if_neg ec]
    exact ⟨G1, O1, s1, rfl, r1, q1⟩
theorem whileL_n {c : Sta → Res Bool} {body : Sta → RS} {s : Sta} (h : whileL c body s ≠ .stuck) : ∃ n, whileL c body s = whileN c body n s := by
  unfold whileL at h ⊢
  split
  · exact ⟨_, rfl⟩
  · rename_i hn
    rw [dif_neg hn] at h
    exact absurd rfl h
theorem s_whl {i : T} {b : List S} {c : Expr} {y : List Stmt} {pos : Pos} (hS : PassesOwn (model X.prog X.w) X.A X.env X.xe) (hc : TOk W wx X P i c) (hb : PSs X y (tS W wx (execs P b))) : PS X (.While c y [] pos) (tS W wx (exec P (.whl i b))) := ps_weak (ps_while hS hc.pt hb) fun D σ H q => by
  obtain ⟨G, O, s, e, r, q⟩ := q
  simp only [exec] at q
  have hne : whileL (evt P i) (execs P b) s ≠ .stuck := fun z => by rw [z] at q; exact q
  obtain ⟨n, hn⟩ := whileL_n hne
  rw [hn] at q
  refine ⟨fun m σ H => ∃ (G : Gh) (O : List (Option Addr)) (s : Sta), G.H = H ∧ StRep W G s σ O ∧ OutS W wx G O D (whileN (evt P i) (execs P b) m s), ⟨n, G, O, s, e, r, q⟩, ?_⟩
  rintro m σ H ⟨G, O, s, e, r, q⟩
  cases m with
  | zero => exact q.elim
  | succ m =>
    simp only [whileN] at q
    refine ⟨G, O, s, e, r, ?_⟩
    refine Out.then q fun a s1 _ x G1 O1 fr r1 rr q1 => ?_
    have rr : a = x := rr
    subst rr
    split at q1
    · rename_i ec
      rw [if_pos ec]
      refine ⟨fun σ' H' => ∃ (G : Gh) (O : List (Option Addr)) (s : Sta), G.H = H' ∧ StRep W G s σ' O ∧ OutS W wx G O D (whileN (evt P i) (execs P b) m s), fun σ' H' w => ⟨m, Nat.lt_succ_self m, w⟩, G1, O1, s1, rfl, r1, ?_⟩
      cases e2 : execs P b s1 with
      | next s2 => rw [e2] at q1; exact fun σ' G' O' f' r' => ⟨G', O', s2, rfl, r', OutS.shift f' q1⟩
      | cnt s2 => rw [e2] at q1; exact fun σ' G' O' f' r' => ⟨G', O', s2, rfl, r', OutS.shift f' q1⟩
      | brk s2 => rw [e2] at q1; exact q1
      | ret o d s2 => rw [e2] at q1; exact q1
      | exn y s2 => rw [e2] at q1; exact q1
      | stuck => rw [e2] at q1; exact q1
    · rename_i ec
      rw [if_neg ec]
      exact q1 σ G1 O1 (.refl G1 _) r1
theorem s_fr {tg : Tg} {i : It} {b : List S} {tE ie : Expr} {y : List Stmt} {pos : Pos} (C : Cok W nm t k wx N sc ws X) (hS : PassesOwn (model X.prog X.w) X.A X.env X.xe) (hi : PI X tE ie (tI W wx (evit P i))) (hg : PG X tE (tG W tg)) (hb : PSs X y (tS W wx (execs P b))) (hs : notSet ie = true) :
    PS X (.For tE ie y [] pos) (tS W wx (exec P (.fr tg i b))) := ps_weak (ps_for hS C.calm hi hg hb (fold_of hs)) fun D σ H q => by
  obtain ⟨G, O, s, e, r, q⟩ := q
  refine ⟨G, O, s, e, r, ?_⟩
  simp only [exec] at q
  refine Out.then q fun ds s1 _ J G1 O1 fr r1 rr q1 => ?_
  have rr : JOk W G1 ds J := rr
  generalize hbody : (fun (d : Z.D) (s2 : Sta) => match assign tg d s2.σ with
      | some σ' => execs P b { s2 with σ := σ' }
      | none => RS.stuck) = body at q1
  let inv : Nat → L2.St → Hp → Prop := fun j σ H => ∃ (G' : Gh) (O' : List (Option Addr)) (s' : Sta), G'.H = H ∧ StRep W G' s' σ O' ∧ Frm G1 (Z.ow O1) G' (Z.ow O') ∧ OutS W wx G' O' D (forL body (ds.drop j) s')
  refine ⟨fun j m σ H => m = ds.length - j ∧ j ≤ ds.length ∧ inv j σ H, ⟨ds.length, by simp, Nat.zero_le _, G1, O1, s1, rfl, r1, .refl G1 _, q1⟩, ?_⟩
  rintro j m σ H ⟨rfl, hj, G', O', s', rfl, r', f', q'⟩
  by_cases hlt : j < ds.length
  · refine .inr ⟨rr.go G' j f'.keep hlt, inv (j + 1), fun σ' H' p' => ⟨ds.length - (j + 1), by omega, rfl, hlt, p'⟩, fun x H' yy => ?_⟩
    obtain ⟨d, hd⟩ : ∃ d, ds[j]? = some d := ⟨_, List.getElem?_eq_getElem hlt⟩
    obtain ⟨G2, rfl, ex, rx⟩ := rr.yld G' j d x H' f'.keep r'.dom hd yy
    have r2 := r'.ext ex
    have f2 := r'.fr ex
    have hdrop : ds.drop j = d :: ds.drop (j + 1) := by
      rw [List.drop_eq_getElem_cons hlt]
      rw [List.getElem?_eq_getElem hlt] at hd
      cases hd; rfl
    rw [hdrop] at q'
    simp only [forL] at q'
    have eb : body d s' = match assign tg d s'.σ with
      | some σ' => execs P b { s' with σ := σ' }
      | none => RS.stuck := by rw [← hbody]
    rw [eb] at q'
    cases ea : assign tg d s'.σ with
    | none => rw [ea] at q'; exact q'.elim
    | some z =>
      rw [ea] at q'
      simp only at q'
      refine ⟨G2, O', s', d, z, rfl, r2, rx, ea, fun σ2 O2 r3 f3 n3 l3 => ?_⟩
      refine ⟨G2, O2, { s' with σ := z }, rfl, r3, ?_⟩
      have f3' := f2.trans f3
      cases e2 : execs P b { s' with σ := z } with
      | next s2 =>
        rw [e2] at q'
        exact fun σ' G' O' f4 r4 => ⟨G', O', s2, rfl, r4, f'.trans (f3'.trans f4), OutS.shift (f3'.trans f4) q'⟩
      | cnt s2 =>
        rw [e2] at q'
        exact fun σ' G' O' f4 r4 => ⟨G', O', s2, rfl, r4, f'.trans (f3'.trans f4), OutS.shift (f3'.trans f4) q'⟩
      | brk s2 => rw [e2] at q'; exact OutS.shift (D := D) (r := .next s2) f3' q'
      | ret o d s2 => rw [e2] at q'; exact OutS.shift (D := D) (r := .ret o d s2) f3' q'
      | exn y s2 => rw [e2] at q'; exact OutS.shift (D := D) (r := .exn y s2) f3' q'
      | stuck => rw [e2] at q'; exact q'
  · have e : j = ds.length := by omega
    subst e
    refine .inl ⟨rr.stop G' _ f'.keep (Nat.le_refl _), ?_⟩
    rw [List.drop_length] at q'
    exact q' σ G' O' (.refl G' _) r'
/-! ### stores -/
theorem s_set {i : Nat} {x : Str} {j : E} {e : Expr} {py pos : Pos} (C : Cok W nm t k wx N sc ws X) (hx : N[i]? = some x) (hl : locB ws x = true) (h : PE X e (tE W wx (ev P j))) (hn : notComp e = true) : PS X (.Assign [.Name x py] e pos) (tS W wx (exec P (.set i j))) := by
  obtain ⟨l1, l2⟩ := C.locW hl
  refine ps_weak (ps_set (by rw [C.eN]; exact C.nd) (by rw [C.eN]; exact hx) l1 h (swap_of hn) l2) fun D σ H q => ?_
  obtain ⟨G, O, s, e, r, q⟩ := q
  refine ⟨G, O, s, e, r, ?_⟩
  simp only [exec] at q
  cases e1 : ev P j s with
  | stuck => rw [e1] at q; exact q
  | exn y s1 => rw [e1] at q; exact fun G' O' fr sr => q σ G' O' fr sr
  | ok x s1 =>
    rw [e1] at q
    exact fun v G1 O1 fr r1 rr => bind_end fr r1 rr q
theorem s_setLc {i : Nat} {x : Str} {py pos ppos : Pos} {tg : Tg} {vs : List Nat} {it : It} {ifs : List T} {y : E} {elt te ie : Expr} {ce : List Expr} {scope : Scope} (C : Cok W nm t k wx N sc ws X) (hx : N[i]? = some x) (hl : localB sc x = true)
    (hk : X.env.scope.kind = .function) (hln : (py.line == ppos.line) = true) (hnot : (scope.names.any fun (n, k) => n == x && (k == .local || k == .cell)) = false)
    (hi : PI X te ie (tI W wx (evit P it))) (hb : BlkOk X.N X.env.scope scope (vs.map fun v => (N.getD v Str.empty, v))) (hsub : ∀ v ∈ tgv tg, v ∈ vs)
    (hg : ∀ (s : Shared) (H : Hp) (C' : Addr) (cl : List (Str × Addr)) (fp : List Addr), PG (X.blk s H scope (compEnvC scope cl C' X.env) fp) te (tG W tg)) (ht : ∀ (s : Shared) (H : Hp) (C' : Addr) (cl : List (Str × Addr)) (fp : List Addr), PTs (X.blk s H scope (compEnvC scope cl C' X.env) fp) ce (tB W wF (evts P ifs)))
    (he : ∀ (s : Shared) (H : Hp) (C' : Addr) (cl : List (Str × Addr)) (fp : List Addr), PE (X.blk s H scope (compEnvC scope cl C' X.env) fp) elt (tV W wF (ev P y))) (hs : notSet ie = true) :
    PS X (.Assign [.Name x py] (.ListComp elt [⟨te, ie, ce, 0⟩] scope ppos) pos) (tS W wx (exec P (.set i (.comp tg vs it ifs y)))) := by
  have hxl : X.env.scope.names.lookup x = some .local := by
    rw [C.eS]
    unfold localB at hl
    split at hl
    · assumption
    · cases hl
  have own : (vs.map fun v => (N.getD v Str.empty, v)).map (·.2) = vs := by
    rw [List.map_map]
    exact List.map_id vs
  refine ps_weak (ps_setLc (g := tG W tg) (tt := tB W wF (evts P ifs)) (te := tV W wF (ev P y)) C.calm (by rw [C.eN]; exact C.nd) (by rw [C.eN]; exact hx) hxl (sw_true hk hxl hln hnot) hi hb hg ht he (fold_of hs)) fun D σ H q => ?_
  rw [own]
  refine lc_w hsub ?_
  obtain ⟨G, O, s, e, r, q⟩ := q
  refine ⟨G, O, s, e, r, ?_⟩
  have q : OutS W wx G O D ((ev P (.comp tg vs it ifs y) s).then fun x s1 => bindTo i x.1 x.2 s1) := q
  cases e1 : ev P (.comp tg vs it ifs y) s with
  | stuck => rw [e1] at q; exact q
  | exn y s1 => rw [e1] at q; exact fun G' O' fr sr => q σ G' O' fr sr
  | ok x s1 =>
    rw [e1] at q
    exact fun v G1 O1 fr r1 rr => bind_end fr r1 rr q
theorem sw_trueD {kx elt : Expr} {gs : List Comprehension} {scope : Scope} {pos py : Pos} {y : Str} {l : Nat} {env : Env} (hk : env.scope.kind = .function) (hy : env.scope.names.lookup y = some .local) (hl : (py.line == pos.line) = true)
    (ha : (scope.names.any fun (n, k) => n == y && (k == .local || k == .cell)) = false) : swapsWith (.DictComp kx elt gs scope pos) (some (.Name y py)) l env = pure true := by
  have k1 : env.kindOf y = some .local := hy
  have k2 : env.blockKind = .function := by
    unfold Env.blockKind
    rw [hk]
    rfl
  simp only [swapsWith, k2, k1, ha, Expr.pos, hl]
  rfl
theorem ps_setDcZ {i : Nat} {y : Str} {py : Pos} {kx elt tg iter : Expr} {ifs : List Expr} {scope : Scope} {own : List (Str × Nat)} {pos spos : Pos} {wi : TI} {g : TG} {tt : TT} {tk te : TE} (hc : X.calm = true) (hN : X.N.Nodup) (hy : X.N[i]? = some y) (hyl : X.env.scope.names.lookup y = some .local)
    (hsw : swapsWith (.DictComp kx elt [⟨tg, iter, ifs, 0⟩] scope pos) (some (.Name y py)) spos.line X.env = pure true) (hi : PI X tg iter wi) (ok : BlkOk X.N X.env.scope scope own)
    (hg : ∀ (s : Shared) (H : Hp) (C : Addr) (cl : List (Str × Addr)) (fp : List Addr), PG (X.blk s H scope (compEnvC scope cl C X.env) fp) tg g) (ht : ∀ (s : Shared) (H : Hp) (C : Addr) (cl : List (Str × Addr)) (fp : List Addr), PTs (X.blk s H scope (compEnvC scope cl C X.env) fp) ifs tt)
    (hk : ∀ (s : Shared) (H : Hp) (C : Addr) (cl : List (Str × Addr)) (fp : List Addr), PE (X.blk s H scope (compEnvC scope cl C X.env) fp) kx tk) (he : ∀ (s : Shared) (H : Hp) (C : Addr) (cl : List (Str × Addr)) (fp : List Addr), PE (X.blk s H scope (compEnvC scope cl C X.env) fp) elt te) (hs : ∀ x, foldedSetIterable iter X.env x = pure x) :
    PS X (.Assign [.Name y py] (.DictComp kx elt [⟨tg, iter, ifs, 0⟩] scope pos) spos) (tAsg (tDc wi g tt tk te (own.map (·.2))) (gName i)) := by
  constructor
  intro pins s σ H D I hh
  rw [exec_Assign_Name_used _ _ _ _ hsw]
  apply wpAny_bind
  apply wpAny_standAt
  apply wpAny_bind
  show wpAny _ X.A (do let _ ← comprehension (.DictComp kx elt [⟨tg, iter, ifs, 0⟩] scope pos) scope X.env (firstIterPos [⟨tg, iter, ifs, 0⟩] pos) newDict false (eval iter X.env) (some (PySem.assign (.Name y py) X.env))) _ _ s
  have hh : tDc wi g tt tk te (own.map (·.2)) σ H (fun x H1 => gName i x σ H1 D.nx) := hh
  apply wpAny_bind
  refine thn (dc_core (Qf := fun _ s' => SP X pins D .next s') hc hN I hi ok hg ht hk he hs hh fun L C s' m H' I' q hn f => ?_) (fun _ s' hq => wpAny_pure (wpAny_pure hq))
  obtain ⟨f0, f1, f2, f3, f4, f5⟩ := f
  show wpAny _ _ (PySem.assign (.Name y py) X.env (.ref L)) _ _ _
  refine wpAny_assign_Name (store_ok2 (v := V.ref L) I' hN hy (.inl hyl) rfl (fun s2 I2 z => ?_) (.inr hyl))
  obtain ⟨a, sb, ha⟩ := z
  have ne : C ≠ a := ha.elim (fun z => by rw [z]; exact f1) fun z e => f4 y a z e.symm
  exact ⟨m, hn.sameBut sb ne, fun h3 sb3 => ⟨_, H', I2.turned (t' := s2.toks) (fun b o hb e => (sb3.2 b hb).trans e) f0 f1 f3 f4 f5, q⟩⟩
theorem s_setDc {i : Nat} {x : Str} {py pos ppos : Pos} {tg : Tg} {vs : List Nat} {it : It} {ifs : List T} {z y : E} {ke elt te ie : Expr} {ce : List Expr} {scope : Scope} (C : Cok W nm t k wx N sc ws X) (hx : N[i]? = some x) (hl : localB sc x = true)
    (hk : X.env.scope.kind = .function) (hln : (py.line == ppos.line) = true) (hnot : (scope.names.any fun (n, k) => n == x && (k == .local || k == .cell)) = false)
    (hi : PI X te ie (tI W wx (evit P it))) (hb : BlkOk X.N X.env.scope scope (vs.map fun v => (N.getD v Str.empty, v))) (hsub : ∀ v ∈ tgv tg, v ∈ vs)
    (hg : ∀ (s : Shared) (H : Hp) (C' : Addr) (cl : List (Str × Addr)) (fp : List Addr), PG (X.blk s H scope (compEnvC scope cl C' X.env) fp) te (tG W tg)) (ht : ∀ (s : Shared) (H : Hp) (C' : Addr) (cl : List (Str × Addr)) (fp : List Addr), PTs (X.blk s H scope (compEnvC scope cl C' X.env) fp) ce (tB W wF (evts P ifs)))
    (hke : ∀ (s : Shared) (H : Hp) (C' : Addr) (cl : List (Str × Addr)) (fp : List Addr), PE (X.blk s H scope (compEnvC scope cl C' X.env) fp) ke (tV W wF (ev P z)))
    (he : ∀ (s : Shared) (H : Hp) (C' : Addr) (cl : List (Str × Addr)) (fp : List Addr), PE (X.blk s H scope (compEnvC scope cl C' X.env) fp) elt (tV W wF (ev P y))) (hs : notSet ie = true) :
    PS X (.Assign [.Name x py] (.DictComp ke elt [⟨te, ie, ce, 0⟩] scope ppos) pos) (tS W wx (exec P (.set i (.dcomp tg vs it ifs z y)))) := by
  have hxl : X.env.scope.names.lookup x = some .local := by
    rw [C.eS]
    unfold localB at hl
    split at hl
    · assumption
    · cases hl
  have own : (vs.map fun v => (N.getD v Str.empty, v)).map (·.2) = vs := by
    rw [List.map_map]
    exact List.map_id vs
  refine ps_weak (ps_setDcZ (g := tG W tg) (tt := tB W wF (evts P ifs)) (tk := tV W wF (ev P z)) (te := tV W wF (ev P y)) C.calm (by rw [C.eN]; exact C.nd) (by rw [C.eN]; exact hx) hxl (sw_trueD hk hxl hln hnot) hi hb hg ht hke he (fold_of hs)) fun D σ H q => ?_
  rw [own]
  refine dc_w hsub ?_
  obtain ⟨G, O, s, e, r, q⟩ := q
  refine ⟨G, O, s, e, r, ?_⟩
  have q : OutS W wx G O D ((ev P (.dcomp tg vs it ifs z y) s).then fun x s1 => bindTo i x.1 x.2 s1) := q
  cases e1 : ev P (.dcomp tg vs it ifs z y) s with
  | stuck => rw [e1] at q; exact q
  | exn y s1 => rw [e1] at q; exact fun G' O' fr sr => q σ G' O' fr sr
  | ok x s1 =>
    rw [e1] at q
    exact fun v G1 O1 fr r1 rr => bind_end fr r1 rr q
theorem s_setT {tg : Tg} {j : E} {tE' e : Expr} {pos : Pos} (hg : PG X tE' (tG W tg)) (htu : isTupE tE' = true) (hnt : isTupE e = false) (hnl : notComp e = true) (h : EOk W wx X P j e) : PS X (.Assign [tE'] e pos) (tS W wx (exec P (.setT tg j))) := by
  obtain ⟨es, kk, p, rfl⟩ := isTup_of htu
  refine ps_weak (ps_asg h.pv hg (by cases e <;> first | rfl | cases hnl) (by cases e <;> first | rfl | cases hnt) rfl) fun D σ H q => ?_
  obtain ⟨G, O, s, e, r, q⟩ := q
  refine ⟨G, O, s, e, r, ?_⟩
  simp only [exec] at q
  refine Out.then q fun a s1 _ x G1 O1 fr r1 rr q1 => ?_
  cases ea : assign tg a.2 s1.σ with
  | none => rw [ea] at q1; exact q1.elim
  | some z =>
    rw [ea] at q1
    exact ⟨G1, O1, s1, a.2, z, rfl, r1, rr, ea, fun σ' O' r2 f2 _ _ => q1 σ' G1 O' f2 r2⟩
def rAug (op : Operator) : TIp := fun x z H Q => ∃ i j, x = .int i ∧ z = .int j ∧ match op with
  | .Add => Q (.int (i + j)) H
  | .Sub => Q (.int (i - j)) H
  | _ => False
theorem ip_Z (op : Operator) : PIp X op (rAug op) := by
  intro pins s σ H x y v u Q I rx ry q
  obtain ⟨i, j, rfl, rfl, q⟩ := q
  cases op <;> first | exact q.elim | skip
  · exact ip_add pins s σ H _ _ v u Q I rx ry ⟨i, j, rfl, rfl, q⟩
  · exact ip_sub pins s σ H _ _ v u Q I rx ry ⟨i, j, rfl, rfl, q⟩
theorem aug_Z {op : Operator} {d y r : D} {G : Gh} {x z : V} {Q : VK} (hx : Rep W G d x) (hz : Rep W G y z) (e : augD op d y = some r) (q : ∀ v, Rep W G r v → Q v G.H) : rAug op x z G.H Q := by
  cases d <;> cases y <;> cases op <;> first | (cases e; done) | skip
  all_goals
    cases e
    cases repw_int hx.w
    cases repw_int hz.w
    exact ⟨_, _, rfl, rfl, q _ rep_int⟩
theorem s_aug {i : Nat} {x : Str} {j : E} {e : Expr} {op : Operator} {py pos : Pos} (C : Cok W nm t k wx N sc ws X) (hx : N[i]? = some x) (hl : locB ws x = true) (h : EOk W wx X P j e) : PS X (.AugAssign (.Name x py) op e pos) (tS W wx (exec P (.aug i op j))) := by
  obtain ⟨l1, l2⟩ := C.locW hl
  refine ps_weak (ps_aug (by rw [C.eN]; exact C.nd) (by rw [C.eN]; exact hx) l1 h.pv (ip_Z op) l2) fun D σ H q => ?_
  obtain ⟨G, O, s, e, r, q⟩ := q
  simp only [exec] at q
  cases e1 : s.σ[i]? with
  | none => rw [e1] at q; exact q.elim
  | some x =>
    rw [e1] at q
    cases x with
    | no => exact q.elim
    | own c => exact q.elim
    | sh d =>
      obtain ⟨v, o, h1, h2, _, y, rfl, ry⟩ := r.slots i _ e1
      refine ⟨y, h1, G, O, s, e, r, ?_⟩
      refine Out.then q fun a s1 _ x G1 O1 fr r1 rr q1 => ?_
      cases ea : augD op d a.2 with
      | none => rw [ea] at q1; exact q1.elim
      | some z =>
        rw [ea] at q1
        exact aug_Z (Rep.keep fr.keep _ _ ry) rr ea fun v rv => bind_end (.refl G1 _) r1 (show RO W G1 O1 G1 O1 s1 (false, z) v from ro_val rv) q1
end
end Z

set_option Elab.async false
set_option linter.all false
set_option maxRecDepth 100000
set_option maxHeartbeats 4000000
set_option autoImplicit false
/-! ZSnd10: items stored, exceptions. -/
namespace Z
open PySem PySem.Spec PyProof.Rows L2
section
variable {W : Wo} {G : Gh}
def rPutZ (W : Wo) : TSet := fun o i v H Q => ∃ (G : Gh) (a : Addr) (c c' : Cell) (k d : D), G.H = H ∧ o = .ref a ∧ CRep W G c a ∧ ¬ G.F a ∧ Rep W G k i ∧ Rep W G d v ∧ putC c k d = some c' ∧
  ∀ o', (Keep G ⟨upd G.H a o', G.F, G.M⟩ → CRep W ⟨upd G.H a o', G.F, G.M⟩ c' a) → Q (upd H a o')
theorem put_Z {X : Cx} (hu : X.A.units + 1 < cLine) : PSet X (rPutZ W) := by
  intro pins s σ H o i v ov iv u Q I ro ri rv h
  obtain ⟨G, a, c, c', k, d, rfl, rfl, hc, nf, hk, hd, e, q⟩ := h
  cases c with
  | L ds =>
    cases k with
    | int j =>
      simp only [putC] at e
      cases e1 : ixN ds.length j with
      | none => rw [e1] at e; cases e
      | some m =>
        rw [e1] at e
        cases e
        cases repw_int hk.w
        obtain ⟨ws, h1, h2⟩ := hc
        refine set_list pins s σ _ _ _ v ov iv u Q I ro ri rv ⟨a, ws, j, m, rfl, rfl, h1, by rw [h2.len]; exact e1, q _ fun kp => ⟨_, upd_same, (Reps.keep kp _ _ h2).set m (Rep.keep kp _ _ hd)⟩⟩
    | _ => cases e
  | M ks us =>
    have e : (if keyOk k = true ∧ ks.length < LIM then some (Cell.M (putD ks us k d).1 (putD ks us k d).2) else none) = some c' := by
      cases k <;> exact e
    split at e
    · rename_i hh
      cases e
      obtain ⟨kvs, h1, rfl, h2⟩ := hc
      obtain ⟨x, rfl, rfl⟩ := key_rep hk.w hh.1
      refine set_dict hu pins s σ _ _ _ v ov iv u Q I ro ri rv ⟨a, _, rfl, DPut.k h1 (by rw [← lim_line]; simpa using hh.2), q _ fun kp => ?_⟩
      obtain ⟨p1, p2⟩ := put_rep (x := x) (Rep.keep kp _ _ hd) (Reps.keep kp _ _ h2)
      exact ⟨_, upd_same, p1, p2⟩
    · cases e
  | I c fs => cases k <;> cases e
end
section
variable {W : Wo} {wx : WX} {X : Cx} {P : Prog} {nm : Nm} {t : Tbl} {k : Nat} {N : List Str} {sc ws : Scope}
theorem s_put {o kk j : E} {oe ke e : Expr} {p pos : Pos} (C : Cok W nm t k wx N sc ws X) (ho : EOk W wx X P o oe) (hk : EOk W wx X P kk ke) (h : EOk W wx X P j e) (hp : plainIxB ke = true) : PS X (.Assign [.Subscript oe ke p] e pos) (tS W wx (exec P (.put o kk j))) := by
  have u65 := units64 C.room
  refine ps_weak (ps_asg h.pv (pg_sub ho.pp hk.pv (put_Z (W := W) (X := X) (by omega)) (by intro v; cases ke <;> first | rfl | cases hp)) (by cases e <;> rfl) (by cases e <;> rfl) rfl) fun D σ H q => ?_
  obtain ⟨G, O, s, e, r, q⟩ := q
  refine ⟨G, O, s, e, r, ?_⟩
  simp only [exec] at q
  refine Out.then q fun x s1 _ v G1 O1 fr r1 rr q1 => ⟨G1, O1, s1, rfl, r1, ?_⟩
  refine Out.then q1 fun pl s2 _ ov G2 O2 fr2 r2 rr2 q2 => ⟨G2, O2, s2, rfl, r2, ?_⟩
  refine Out.then q2 fun i s3 _ iv G3 O3 fr3 r3 rr3 q3 => ?_
  obtain ⟨a, rfl, hpl⟩ := rr2
  have hpl := plRep_keep fr3.keep hpl
  have rx : Rep W G3 x.2 v := Rep.keep (fr2.trans fr3).keep _ _ rr
  have ri : Rep W G3 i.2 iv := rr3
  cases e1 : pl.get s3 with
  | none => rw [e1] at q3; exact q3.elim
  | some c =>
    rw [e1] at q3
    simp only at q3
    cases e2 : putC c i.2 x.2 with
    | none => rw [e2] at q3; exact q3.elim
    | some c' =>
      rw [e2] at q3
      obtain ⟨h1, h2, h3⟩ := place_at r3 e1 hpl
      refine ⟨G3, a, c, c', i.2, x.2, rfl, rfl, h1, h2, ri, rx, e2, fun o' new => ?_⟩
      obtain ⟨r4, f4⟩ := place_set r3 e1 hpl new
      exact q3 σ _ O3 f4 r4
/-- an own exception without __init__ -/
def raiseS : Expr → Option Str
  | .Call (.Name x _) [.Constant (.str _) _ _] [] _ => some x
  | _ => none
theorem s_rais {c : Nat} {x : Str} {e : Expr} {pos : Pos} (C : Cok W nm t k wx N sc ws X) (hr : raiseS e = some x) (hx : nm.ex[c]? = some x) (hc : c ∈ nm.own) (hg : glB sc x = true) (hd : okName x = true) : PS X (.Raise (some e) none pos) (tS W wx (exec P (.rais c []))) := by
  unfold raiseS at hr
  split at hr
  · rename_i x' p m j p2 pos'
    cases hr
    obtain ⟨A, h1, h2, h3, h4, h5, h6⟩ := C.exc.cls c x hx
    obtain ⟨bmB, B, newId, initId, F, q⟩ := C.exc.own c A hc h1
    have hdb : (x == ("__debug__" : Str)) = false := by
      simp only [okName, Bool.and_eq_true, Bool.not_eq_true'] at hd
      exact hd.1.1
    refine ps_weak (ps_raise C.calm C.tk (pmk_own F q h2 h3 (raises_own h4 h5) (C.gl hg) hdb)) fun D σ H q => ?_
    obtain ⟨G, O, s, rfl, r, q⟩ := q
    exact q σ G O (.refl G _) r (.ref A) none ⟨A, h1, rfl, .inl ⟨rfl, rfl⟩⟩
  · cases hr
/-! ### try -/
theorem Cok.tr (C : Cok W nm t k wx N sc ws X) {wx' : WX} {pn : List (Addr × Obj)} {xe : Value → Shared → Prop} (tk : Takes (X.tr pn xe) wx') : Cok W nm t k wx' N sc ws (X.tr pn xe) where
  eK := C.eK
  eN := C.eN
  nd := C.nd
  eS := C.eS
  calm := C.calm
  room := C.room
  tk := tk
  flen := C.flen
  fns := fun f fn h => ⟨(C.fns f fn h).ex⟩
  gls := C.gls
  blt := C.blt
  fa := C.fa
  exc := C.exc
  kds := C.kds
  wr := C.wr
/-- the suite «return isinstance(e, C2)» -/
def tSuIsi (W : Wo) (K : PySem.W.Frag) (i : Nat) (C2 : Addr) : Addr → Value → Option Addr → TS := fun a cls d D σ H => ∃ (c' : Nat) (C' : Addr), cls = .ref C' ∧ d = none ∧ W.xa c' = some C' ∧ tRet (tCB (rIsE K C' a) (tCons (tVar i) (tCons (tC (.ref C2)) tNil))) D σ H
theorem s_tryIsi {b : List S} {c c2 i : Nat} {body : List Stmt} {x x2 n : Str} {ie ee ce : Expr} {np rp cp pos' pos : Pos} (C : Cok W nm t k wx N sc ws X) (hS : Sok X) (hi : N[i]? = some n) (hln : localB sc n = true) (hx : nm.ex[c]? = some x) (hgx : glB sc x = true) (hdx : okName x = true)
    (hx2 : isGl nm.ex sc c2 ce = true) (hie : isBlt sc "isinstance" ie = true) (hee : isVar N sc i ee = true)
    (hb : ∀ (wx' : WX) (X' : Cx), Cok W nm t k wx' N sc ws X' → Sok X' → PSs X' body (tS W wx' (execs (prog t k) b))) :
    PS X (.Try body [.ExceptHandler (some (.Name x np)) (some n) [.Return (some (.Call ie [ee, ce] [] cp)) rp] pos'] [] [] pos) (tS W wx (exec (prog t k) (.tryE b c i (.isi c2)))) := by
  obtain ⟨A, h1, h2, h3, h4, h5, h6⟩ := C.exc.cls c x hx
  obtain ⟨q, rfl, ig, im⟩ := C.blt1 hie (by decide)
  obtain ⟨ex, ep, rfl, e1, e2, e3, e4⟩ := isVar_of C hee
  obtain ⟨x2, p2, rfl, c1, cg, c3⟩ := isGl_of C hx2
  obtain ⟨A2, g1, g2, g3, g4, g5, g6⟩ := C.exc.cls c2 x2 c1
  have hdb : (x == ("__debug__" : Str)) = false := by
    simp only [okName, Bool.and_eq_true, Bool.not_eq_true'] at hdx
    exact hdx.1.1
  have hkn : X.env.kindOf n = some .local := by
    rw [C.kind]
    unfold localB at hln
    split at hln
    · assumption
    · cases hln
  have sK : ∀ {a : Addr} {oe : Obj} {cls : Value} {d : Option Addr} {pn : List (Addr × Obj)}, Zc cls d oe → (∃ vs, oe.data = .fields vs) → PSs (X.suite a ((a, oe) :: pn)) [.Return (some (.Call (.Name (Str.ofString "isinstance") q) [.Name ex ep, .Name x2 p2] [] cp)) rp] (tSuIsi W X.K i A2 a cls d) := fun {a oe cls d pn} hz hf => ⟨fun pins s σ H D I h => by
    obtain ⟨c', C', rfl, rfl, hC', h⟩ := h
    have hEx : ExcC X.K C' := by
      obtain ⟨y, hy⟩ := C.exc.xa c' C' hC'
      obtain ⟨A', z1, _, _, _, _, z6⟩ := C.exc.cls c' y hy
      rw [hC'] at z1; cases z1
      exact z6
    have pe : PE (X.suite a ((a, oe) :: pn)) (.Name ex ep) (tVar i) := pe_var (X := X.suite a ((a, oe) :: pn)) e1 e2 e3 e4
    have pc : PE (X.suite a ((a, oe) :: pn)) (.Name x2 p2) (tC (.ref A2)) := pe_glob (X := X.suite a ((a, oe) :: pn)) (v := .ref A2) cg g2 rfl c3
    exact (pss_one (ps_ret (pe_callB (X := X.suite a ((a, oe) :: pn)) (call_isE hEx hz hf) ig im PyProof.Rows.boot_isinstance (pa_cons pe (pa_cons pc pa_nil)) (by decide +kernel) (by decide +kernel)))).run pins s σ H D I h⟩
  refine ps_weak (ps_try_as (i := i) (c := .ref A) (tb := fun wx' => tS W wx' (execs (prog t k) b)) (ts := tSuIsi W X.K i A2) (Wout := wx) hS.stk hS.frm (by rw [C.eN]; exact C.nd) (by rw [C.eN]; exact hi) hkn ⟨C.gl hgx, hdb, .inl h2⟩ C.tk
    (fun wx' pn xe tk pa => hb wx' _ (C.tr tk) ⟨pa, hS.stk, hS.frm⟩) fun a oe cls d pn hz hf => sK hz hf) fun D σ H q => ?_
  obtain ⟨G, O, s, e, r, q⟩ := q
  refine ⟨G, O, s, e, r, ?_⟩
  simp only [exec] at q
  cases e5 : execs (prog t k) b s with
  | next s1 => rw [e5] at q; exact q
  | brk s1 => rw [e5] at q; exact q
  | cnt s1 => rw [e5] at q; exact q
  | ret o d s1 => rw [e5] at q; exact q
  | stuck => rw [e5] at q; exact q
  | exn y s1 =>
    rw [e5] at q
    obtain ⟨c', ds⟩ := y
    intro σ' G' O' fr sr cls dx xr
    obtain ⟨C', w1, rfl, w2⟩ := xr
    obtain ⟨k1, k2⟩ := C.exc.sub c c' A C' h1 w1
    obtain ⟨_, k3⟩ := C.exc.sub c2 c' A2 C' g1 w1
    refine ⟨_, k1, fun hb1 a na => ?_, fun hb1 => ?_⟩
    · simp only at q
      rw [if_pos (show (prog t k).sub c' c = true from hb1)] at q
      cases ds with
      | cons d ds => exact q.elim
      | nil =>
        have dn : dx = none := by
          rcases w2 with w2 | ⟨_, _, _, w2, _⟩
          · exact w2.1
          · exact absurd rfl w2
        subst dn
        simp only [suiteD, List.isEmpty_nil, if_true] at q
        split at q
        · rename_i hlt
          have hlt : i < σ'.length := by rw [sr.len]; exact hlt
          refine ⟨c', C', rfl, rfl, w1, V.ref a, ?_, V.ref A2, Value.ref A2, t.sub c' c2, rfl, fun u h => h, k3, ?_⟩
          · rw [List.getElem?_set_self hlt]
          · exact q (.bl (t.sub c' c2)) σ' G' O' fr sr (show Rep W G' (.bl (t.sub c' c2)) (.bl (t.sub c' c2)) from rep_bl)
        · exact q.elim
    · simp only at q
      rw [if_neg (by rw [show (prog t k).sub c' c = t.sub c' c from rfl, hb1]; decide)] at q
      exact q σ' G' O' fr sr _ _ ⟨C', w1, rfl, w2⟩
end
end Z

set_option Elab.async false
set_option linter.all false
set_option maxRecDepth 100000
set_option maxHeartbeats 4000000
set_option autoImplicit false
/-! ZSnd11: what is checked is so: statements. -/
namespace Z
open PySem PySem.Spec PyProof.Rows L2
def isCompI : E → Bool
  | .comp _ _ _ _ _ => true
  | .dcomp _ _ _ _ _ _ => true
  | _ => false
/-- name = [.. for ..] on one line -/
def setLcOk (sc : Scope) (x : Str) (py : Pos) : Expr → Bool
  | .DictComp _ _ _ scope ppos => localB sc x && (match sc.kind with | .function => true | _ => false) && (py.line == ppos.line) && !(scope.names.any fun (n, k) => n == x && (k == .local || k == .cell))
  | .ListComp _ _ scope ppos => localB sc x && (match sc.kind with | .function => true | _ => false) && (py.line == ppos.line) && !(scope.names.any fun (n, k) => n == x && (k == .local || k == .cell))
  | _ => false
def emptyEs : List E → Bool
  | [] => true
  | _ => false
mutual
def chkS (n : Nm) (N : List Str) (sc : Scope) : Stmt → S → Bool
  | st, .set i j => match st with
    | .Assign [.Name x py] v _ => decide (N[i]? = some x) && locB sc x && chkE n N sc v j && (notComp v || (isCompI j && setLcOk sc x py v))
    | _ => false
  | st, .setT tg j => match st with
    | .Assign [te] v _ => chkTg N sc te tg && isTupE te && !isTupE v && notComp v && chkE n N sc v j
    | _ => false
  | st, .aug i op j => match st with
    | .AugAssign (.Name x _) o v _ => decide (o = op) && decide (N[i]? = some x) && locB sc x && chkE n N sc v j
    | _ => false
  | st, .put o k j => match st with
    | .Assign [.Subscript oe ke _] v _ => chkE n N sc oe o && chkE n N sc ke k && chkE n N sc v j && plainIxB ke
    | _ => false
  | _, .putA _ _ _ _ => false
  | _, .fset _ _ _ => false
  | _, .fsetA _ _ _ _ => false
  | st, .ret j => match st with
    | .Return (some v) _ => chkE n N sc v j
    | _ => false
  | st, .retN => match st with
    | .Return none _ => true
    | _ => false
  | st, .ife c a b => match st with
    | .If ce x y _ => chkT n N sc ce c && chkSs n N sc x a && chkSs n N sc y b
    | _ => false
  | st, .whl c b => match st with
    | .While ce y [] _ => chkT n N sc ce c && chkSs n N sc y b
    | _ => false
  | st, .fr tg it b => match st with
    | .For te ie y [] _ => chkIt n N sc ie it && itTg it te && chkTg N sc te tg && chkSs n N sc y b && notSet ie
    | _ => false
  | st, .brk => match st with
    | .Break _ => true
    | _ => false
  | st, .cnt => match st with
    | .Continue _ => true
    | _ => false
  | st, .pass => match st with
    | .Pass _ => true
    | _ => false
  | st, .exp j => match st with
    | .Expr v _ => chkE n N sc v j && notComp v
    | _ => false
  | st, .rais c es => match st with
    | .Raise (some e) none _ => emptyEs es && (match raiseS e with
      | some x => decide (n.ex[c]? = some x) && decide (c ∈ n.own) && glB sc x && okName x
      | none => false)
    | _ => false
  | st, .tryE b c i su => match su with
    | .isi c2 => match st with
      | .Try body [.ExceptHandler (some (.Name x _)) (some nn) [.Return (some (.Call ie [ee, ce] [] _)) _] _] [] [] _ =>
        decide (N[i]? = some nn) && localB sc nn && decide (n.ex[c]? = some x) && glB sc x && okName x && isGl n.ex sc c2 ce && isBlt sc "isinstance" ie && isVar N sc i ee && chkSs n N sc body b
      | _ => false
    | _ => false
def chkSs (n : Nm) (N : List Str) (sc : Scope) : List Stmt → List S → Bool
  | [], [] => true
  | st :: sts, x :: xs => chkS n N sc st x && chkSs n N sc sts xs
  | _, _ => false
end
section
variable {W : Wo} {nm : Nm} {t : Tbl} {k : Nat} {N : List Str} {sc : Scope}
mutual
theorem sndS : ∀ (x : S) (st : Stmt) (wx : WX) (X : Cx), Cok W nm t k wx N sc sc X → Sok X → chkS nm N sc st x = true → PS X st (tS W wx (exec (prog t k) x))
  | .set i j, st, wx, X, C, hS, h => by
    rw [chkS.eq_def] at h
    simp only at h
    split at h
    · rename_i x py v pos
      simp only [Bool.and_eq_true, decide_eq_true_eq, Bool.or_eq_true] at h
      obtain ⟨⟨⟨h1, h2⟩, h3⟩, h4⟩ := h
      rcases h4 with h4 | ⟨h4, h5⟩
      · exact s_set C h1 h2 (sndE j v wx sc sc X C h3).pe h4
      · cases j with
        | comp tg vs it ifs y =>
          simp only [chkE] at h3
          split at h3
          · rename_i elt te ie ce kz scope ppos
            simp only [Bool.and_eq_true, beq_iff_eq, List.all_eq_true, decide_eq_true_eq] at h3
            obtain ⟨⟨⟨⟨⟨⟨⟨⟨⟨rfl, g1⟩, g2⟩, g3⟩, g4⟩, g5⟩, g6⟩, g7⟩, g8⟩, g9⟩ := h3
            simp only [setLcOk, Bool.and_eq_true, Bool.not_eq_true'] at h5
            obtain ⟨⟨⟨l1, l2⟩, l3⟩, l4⟩ := h5
            have hb : BlkOk X.N X.env.scope scope (vs.map fun v => (N.getD v Str.empty, v)) := by
              rw [C.eN, C.eS]; exact blkOk_by g4
            refine s_setLc C h1 l1 ?_ l3 l4 (sndI it ie te wx sc sc X C g2 g1) hb g6 (fun s H C' cl fp => z_tg (C.blk s H scope C' cl fp) te tg g5) (fun s H C' cl fp => pts_of (sndTs ifs ce wF _ _ _ (C.blk s H scope C' cl fp) g7))
              (fun s H C' cl fp => (sndE y elt wF _ _ _ (C.blk s H scope C' cl fp) g8).pv) g3
            rw [C.eS]
            split at l2
            · assumption
            · cases l2
          · cases h3
        | dcomp tg vs it ifs z y =>
          simp only [chkE] at h3
          split at h3
          · rename_i ke elt te ie ce kz scope ppos
            simp only [Bool.and_eq_true, beq_iff_eq, List.all_eq_true, decide_eq_true_eq] at h3
            obtain ⟨⟨⟨⟨⟨⟨⟨⟨⟨⟨rfl, g1⟩, g2⟩, g3⟩, g4⟩, g5⟩, g6⟩, g7⟩, g8⟩, g9⟩, g10⟩ := h3
            simp only [setLcOk, Bool.and_eq_true, Bool.not_eq_true'] at h5
            obtain ⟨⟨⟨l1, l2⟩, l3⟩, l4⟩ := h5
            have hb : BlkOk X.N X.env.scope scope (vs.map fun v => (N.getD v Str.empty, v)) := by
              rw [C.eN, C.eS]; exact blkOk_by g4
            refine s_setDc C h1 l1 ?_ l3 l4 (sndI it ie te wx sc sc X C g2 g1) hb g6 (fun s H C' cl fp => z_tg (C.blk s H scope C' cl fp) te tg g5) (fun s H C' cl fp => pts_of (sndTs ifs ce wF _ _ _ (C.blk s H scope C' cl fp) g7))
              (fun s H C' cl fp => (sndE z ke wF _ _ _ (C.blk s H scope C' cl fp) g8).pv) (fun s H C' cl fp => (sndE y elt wF _ _ _ (C.blk s H scope C' cl fp) g9).pv) g3
            rw [C.eS]
            split at l2
            · assumption
            · cases l2
          · cases h3
        | _ => cases h4
    · cases h
  | .setT tg j, st, wx, X, C, hS, h => by
    rw [chkS.eq_def] at h
    simp only at h
    split at h
    · simp only [Bool.and_eq_true, Bool.not_eq_true'] at h
      exact s_setT (z_tg C _ tg h.1.1.1.1) h.1.1.1.2 h.1.1.2 h.1.2 (sndE j _ wx sc sc X C h.2)
    · cases h
  | .aug i op j, st, wx, X, C, hS, h => by
    rw [chkS.eq_def] at h
    simp only at h
    split at h
    · simp only [Bool.and_eq_true, decide_eq_true_eq] at h
      obtain ⟨⟨⟨rfl, h1⟩, h2⟩, h3⟩ := h
      exact s_aug C h1 h2 (sndE j _ wx sc sc X C h3)
    · cases h
  | .put o kk j, st, wx, X, C, hS, h => by
    rw [chkS.eq_def] at h
    simp only at h
    split at h
    · simp only [Bool.and_eq_true] at h
      exact s_put C (sndE o _ wx sc sc X C h.1.1.1) (sndE kk _ wx sc sc X C h.1.1.2) (sndE j _ wx sc sc X C h.1.2) h.2
    · cases h
  | .putA _ _ _ _, st, wx, X, C, hS, h => by rw [chkS.eq_def] at h; simp at h
  | .fset _ _ _, st, wx, X, C, hS, h => by rw [chkS.eq_def] at h; simp at h
  | .fsetA _ _ _ _, st, wx, X, C, hS, h => by rw [chkS.eq_def] at h; simp at h
  | .ret j, st, wx, X, C, hS, h => by
    rw [chkS.eq_def] at h
    simp only at h
    split at h
    · exact s_ret (sndE j _ wx sc sc X C h)
    · cases h
  | .retN, st, wx, X, C, hS, h => by
    rw [chkS.eq_def] at h
    simp only at h
    split at h
    · exact s_retN
    · cases h
  | .ife c a b, st, wx, X, C, hS, h => by
    rw [chkS.eq_def] at h
    simp only at h
    split at h
    · simp only [Bool.and_eq_true] at h
      exact s_ife (sndT c _ wx sc sc X C h.1.1) (sndSs a _ wx X C hS h.1.2) (sndSs b _ wx X C hS h.2)
    · cases h
  | .whl c b, st, wx, X, C, hS, h => by
    rw [chkS.eq_def] at h
    simp only at h
    split at h
    · simp only [Bool.and_eq_true] at h
      exact s_whl hS.pa (sndT c _ wx sc sc X C h.1) (sndSs b _ wx X C hS h.2)
    · cases h
  | .fr tg it b, st, wx, X, C, hS, h => by
    rw [chkS.eq_def] at h
    simp only at h
    split at h
    · simp only [Bool.and_eq_true] at h
      exact s_fr C hS.pa (sndI it _ _ wx sc sc X C h.1.1.1.2 h.1.1.1.1) (z_tg C _ tg h.1.1.2) (sndSs b _ wx X C hS h.1.2) h.2
    · cases h
  | .brk, st, wx, X, C, hS, h => by
    rw [chkS.eq_def] at h
    simp only at h
    split at h
    · exact s_brk
    · cases h
  | .cnt, st, wx, X, C, hS, h => by
    rw [chkS.eq_def] at h
    simp only at h
    split at h
    · exact s_cnt
    · cases h
  | .pass, st, wx, X, C, hS, h => by
    rw [chkS.eq_def] at h
    simp only at h
    split at h
    · exact s_pass
    · cases h
  | .exp j, st, wx, X, C, hS, h => by
    rw [chkS.eq_def] at h
    simp only at h
    split at h
    · simp only [Bool.and_eq_true] at h
      exact s_exp (sndE j _ wx sc sc X C h.1) h.2
    · cases h
  | .rais c es, st, wx, X, C, hS, h => by
    rw [chkS.eq_def] at h
    simp only at h
    split at h
    · simp only [Bool.and_eq_true] at h
      obtain ⟨h1, h2⟩ := h
      cases es with
      | cons e es => cases h1
      | nil =>
        split at h2
        · rename_i x hx
          simp only [Bool.and_eq_true, decide_eq_true_eq] at h2
          exact s_rais C hx h2.1.1.1 h2.1.1.2 h2.1.2 h2.2
        · cases h2
    · cases h
  | .tryE b c i su, st, wx, X, C, hS, h => by
    rw [chkS.eq_def] at h
    simp only at h
    split at h
    · split at h
      · simp only [Bool.and_eq_true, decide_eq_true_eq] at h
        obtain ⟨⟨⟨⟨⟨⟨⟨⟨h1, h2⟩, h3⟩, h4⟩, h5⟩, h6⟩, h7⟩, h8⟩, h9⟩ := h
        exact s_tryIsi (x2 := Str.empty) C hS h1 h2 h3 h4 h5 h6 h7 h8 fun wx' X' C' hS' => sndSs b _ wx' X' C' hS' h9
      · cases h
    · cases h
theorem sndSs : ∀ (xs : List S) (sts : List Stmt) (wx : WX) (X : Cx), Cok W nm t k wx N sc sc X → Sok X → chkSs nm N sc sts xs = true → PSs X sts (tS W wx (execs (prog t k) xs))
  | [], sts, wx, X, C, hS, h => by
    cases sts with
    | nil => exact s_nil
    | cons a b => rw [chkSs.eq_def] at h; simp at h
  | x :: xs, sts, wx, X, C, hS, h => by
    cases sts with
    | nil => rw [chkSs.eq_def] at h; simp at h
    | cons a b =>
      rw [chkSs.eq_def] at h
      simp only [Bool.and_eq_true] at h
      exact s_cons (sndS x a wx X C hS h.1) (sndSs xs b wx X C hS h.2)
end
end
end Z

set_option Elab.async false
set_option linter.all false
set_option maxRecDepth 100000
set_option maxHeartbeats 4000000
set_option autoImplicit false
/-! ZFun: every def keeps its promise. -/
namespace Z
open PySem PySem.Spec PyProof.Rows L2
section
variable {W : Wo} {G G' : Gh} {n : Nat}
def cutM (G : Gh) (n : Nat) : Gh := ⟨G.H, G.F, G.M.take n⟩
mutual
theorem Rep.cut : ∀ (d : D) (v : V), d.under n = true → Rep W G d v → Rep W (cutM G n) d v
  | .non, _, _, h => h
  | .bl _, _, _, h => h
  | .int _, _, _, h => h
  | .str _, _, _, h => h
  | .tup ds, v, u, h => by
    simp only [D.under] at u
    simp only [Rep] at h ⊢
    obtain ⟨a, vs, e, s, r⟩ := h
    exact ⟨a, vs, e, s, Reps.cutM ds vs u r⟩
  | .lst ds, v, u, h => by
    simp only [D.under] at u
    simp only [Rep] at h ⊢
    obtain ⟨a, vs, e, f, s, r⟩ := h
    exact ⟨a, vs, e, f, s, Reps.cutM ds vs u r⟩
  | .scr ns, v, u, h => by
    simp only [Rep] at h ⊢
    exact h
  | .dct ks us, v, u, h => by
    simp only [D.under, Bool.and_eq_true] at u
    simp only [Rep] at h ⊢
    obtain ⟨a, kvs, e, f, s, q, r⟩ := h
    exact ⟨a, kvs, e, f, s, q, Reps.cutM us _ u.2 r⟩
  | .ref m, v, u, h => by
    simp only [D.under, decide_eq_true_eq] at u
    simp only [Rep] at h ⊢
    obtain ⟨a, e, s⟩ := h
    refine ⟨a, e, ?_⟩
    show (G.M.take n)[m]? = some a
    rw [List.getElem?_take_of_lt u]; exact s
  | .fn f, v, u, h => by
    simp only [Rep] at h ⊢
    exact h
theorem Reps.cutM : ∀ (ds : List D) (vs : List V), unders n ds = true → Reps W G ds vs → Reps W (cutM G n) ds vs
  | [], _, _, h => h
  | d :: ds, vs, u, h => by
    simp only [unders, Bool.and_eq_true] at u
    simp only [Reps] at h ⊢
    obtain ⟨v, r, e, h1, h2⟩ := h
    exact ⟨v, r, e, Rep.cut d v u.1 h1, Reps.cutM ds r u.2 h2⟩
end
theorem FRep.cut : ∀ (fs : List (Nat × D)) (vs : List (Str × V)), (fs.all fun p => p.2.under n) = true → FRep W G fs vs → FRep W (cutM G n) fs vs
  | [], _, _, h => h
  | (f, d) :: r, vs, u, h => by
    simp only [List.all_cons, Bool.and_eq_true] at u
    obtain ⟨v, vr, e, h1, h2⟩ := h
    exact ⟨v, vr, e, Rep.cut d v u.1 h1, FRep.cut r vr u.2 h2⟩
theorem CRep.cut {c : Cell} {a : Addr} (u : c.under n = true) (h : CRep W G c a) : CRep W (cutM G n) c a := by
  cases c with
  | L ds =>
    obtain ⟨vs, e, r⟩ := h
    exact ⟨vs, e, Reps.cutM _ _ u r⟩
  | M ks us =>
    simp only [Cell.under, Bool.and_eq_true] at u
    obtain ⟨kvs, e, q, r⟩ := h
    exact ⟨kvs, e, q, Reps.cutM _ _ u.2 r⟩
  | I c fs =>
    obtain ⟨C, dx, fvs, e0, e, r⟩ := h
    exact ⟨C, dx, fvs, e0, e, FRep.cut _ _ u r⟩
/-- what a body leaves behind is told to who called -/
theorem gc_ok {G G' : Gh} {o' : List Addr} {S' : List Cell} (c : CsRep W G' S') (f : Frm G [] G' o') (hn : G.M.length = n) (ds : List D) :
    ∃ G2 : Gh, G2.H = G'.H ∧ G2.F = G'.F ∧ (∀ a, a ∈ G2.M → a ∈ G'.M) ∧ FrF G G2 ∧ CsRep W G2 (gc n ds S') ∧ (G2 = G' ∨ (G2 = cutM G' n ∧ unders n ds = true)) := by
  have frf : FrF G G' := ⟨f.keep, f.rest, f.fz, fun a h => by simp at h, f.mm, f.dm⟩
  unfold gc
  split
  · exact ⟨G', rfl, rfl, fun _ h => h, frf, c, .inl rfl⟩
  · split
    · rename_i hu
      simp only [Bool.and_eq_true, List.all_eq_true] at hu
      obtain ⟨hu1, hu2⟩ := hu
      refine ⟨cutM G' n, rfl, rfl, fun a h => List.mem_of_mem_take h, ⟨⟨f.keep.im, f.keep.fz, fun i a e => ?_⟩, f.rest, f.fz, fun a h => by simp at h, fun a h => f.mm a (List.mem_of_mem_take h), f.dm⟩, ⟨?_, fun i x hx => ?_, ?_, c.2.2.2⟩, .inr ⟨rfl, hu1⟩⟩
      · show (G'.M.take n)[i]? = some a
        have := (List.getElem?_eq_some_iff.mp e).1
        rw [List.getElem?_take_of_lt (by omega)]
        exact f.keep.mm i a e
      · show (G'.M.take n).length = (S'.take n).length
        rw [List.length_take, List.length_take, c.1]
      · have hin := List.mem_of_getElem? hx
        have hi : i < n := by
          have := (List.getElem?_eq_some_iff.mp hx).1
          rw [List.length_take] at this
          omega
        rw [List.getElem?_take_of_lt hi] at hx
        obtain ⟨a, h1, h2, h3⟩ := c.2.1 i x hx
        exact ⟨a, by show (G'.M.take n)[i]? = some a; rw [List.getElem?_take_of_lt hi]; exact h1, h2.cut (hu2 x hin), h3⟩
      · exact c.2.2.1.sublist (List.take_sublist _ _)
    · exact ⟨G', rfl, rfl, fun _ h => h, frf, c, .inl rfl⟩
theorem toCell_under {d : D} {c : Cell} (h : toCell d = some c) (u : d.under n = true) : c.under n = true := by
  cases d <;> (simp only [toCell] at h; first | (cases h; done) | skip)
  · cases h; exact u
  · cases h; exact u
end
theorem ow_none (n : Nat) : Z.ow (List.replicate n none) = [] := by
  induction n with
  | zero => rfl
  | succ n ih => rw [List.replicate_succ]; exact ih
/-- the names at the entry -/
theorem st_start {W : Wo} {G : Gh} {N : List Str} {ds : List D} {vs : List V} {S : List Cell} (c : CsRep W G S) (r : Reps W G ds vs) (hl : ds.length ≤ N.length) :
    StRep W G ⟨ds.map .sh ++ List.replicate (N.length - ds.length) .no, S⟩ (L2.start N vs) (List.replicate N.length none) := by
  have hv := r.len
  refine ⟨?_, ?_, fun i x hx => ?_, c.1, c.2.1, ?_, c.2.2.2⟩
  · unfold L2.start; simp [hv]
  · simp; omega
  · have hx : (ds.map Slot.sh ++ List.replicate (N.length - ds.length) .no)[i]? = some x := hx
    by_cases hi : i < ds.length
    · rw [List.getElem?_append_left (by simpa using hi), List.getElem?_map, List.getElem?_eq_getElem hi] at hx
      cases hx
      obtain ⟨v, h1, h2⟩ := r.get (List.getElem?_eq_getElem hi)
      refine ⟨some v, none, ?_, ?_, rfl, v, rfl, h2⟩
      · unfold L2.start
        rw [List.getElem?_append_left (by simp; omega), List.getElem?_map, h1]; rfl
      · rw [List.getElem?_replicate, if_pos (by omega)]
    · have hlt : i < N.length := by
        have := (List.getElem?_eq_some_iff.mp hx).1
        simp at this; omega
      rw [List.getElem?_append_right (by simpa using hi), List.getElem?_replicate] at hx
      split at hx
      · cases hx
        refine ⟨none, none, ?_, ?_, rfl⟩
        · unfold L2.start
          rw [List.getElem?_append_right (by simp; omega), List.getElem?_replicate, if_pos (by simp; omega)]
        · rw [List.getElem?_replicate, if_pos hlt]
      · cases hx
  · show (Z.ow (List.replicate N.length none) ++ G.M).Nodup
    rw [ow_none]
    exact c.2.2.1
/-- what the text says, ahead of every run -/
structure Fac (W : Wo) (nm : Nm) (t : Tbl) (K : PySem.W.Frag) (w : World) (mg : Str → Option Value) : Prop where
  eK : W.K = K
  flen : nm.fn.length = t.fns.length
  gls : ∀ n d, t.glob n = some d → ∃ (x : Str) (u : Value) (v : V), nm.gl[n]? = some x ∧ mg x = some u ∧ RelV v u ∧ ∀ G, Rep W G d v
  blt : ∀ x ∈ bltNames, mg (Str.ofString x) = none
  fa : ∀ (f : Nat) (a : Addr), W.fa f = some a → f < t.fns.length
  exc : ExF W nm t K mg
  kds : KdF t nm K w mg
structure DefF (W : Wo) (nm : Nm) (t : Tbl) (K : PySem.W.Frag) (mg : Str → Option Value) (f : Nat) (fn : Fn) : Prop where
  ex : ∃ (x : Str) (a : Addr) (fd : FuncData) (N : List Str) (y qual : Str) (st : Stmt), nm.fn[f]? = some x ∧ W.fa f = some a ∧ mg x = some (.ref a) ∧ Fun K y qual st a fd ∧ Binds K fd (nm.pn.getD f []) [] ∧ (nm.pn.getD f []).length = fn.np ∧ N.length = fn.ns ∧
    FnScope N (nm.pn.getD f []) (defScope st) ∧ chkSs nm N (defScope st) (defBody st) fn.body = true
section
variable {P : Program} {w : World} {K : PySem.W.Frag} {mg : Str → Option Value} {base : Heap} {W : Wo} {nm : Nm} {t : Tbl}
theorem sp_len {f : Nat} {fn : Fn} {k : Nat} (hf : t.fns[f]? = some fn) {vs : List V} {H : Hp} {Q : VK} {E : XK} (h : spZ W (Phi t k f) vs H Q E) : vs.length = fn.np := by
  obtain ⟨G, ds, S, rfl, c, r, h⟩ := h
  cases k with
  | zero => exact h.elim
  | succ k =>
    simp only [Phi, hf] at h
    rw [r.len]
    by_cases hh : ds.length = fn.np ∧ fn.np ≤ fn.ns
    · exact hh.1
    · rw [if_neg hh] at h
      exact h.elim
theorem all_ok (F : Fac W nm t K w mg) (D : ∀ f fn, t.fns[f]? = some fn → DefF W nm t K mg f fn) : ∀ (k f : Nat) (fn : Fn), t.fns[f]? = some fn →
    ∃ (x : Str) (a : Addr) (fd : FuncData), nm.fn[f]? = some x ∧ W.fa f = some a ∧ mg x = some (.ref a) ∧ PySem.W.keepIn K (.ref a) = true ∧ Binds K fd (nm.pn.getD f []) [] ∧ (nm.pn.getD f []).length = fn.np ∧
      FnOk P w K mg base (L2.CX P w) (2 * k) a fd (nm.pn.getD f []) (spZ W (Phi t k f)) ∧ ∃ oc od osl, K.lookup a = some ⟨oc, od, .func fd, osl⟩
  | 0, f, fn, hf => by
    obtain ⟨x, a, fd, N, y, qual, st, h1, h2, h3, h4, h5, h6, h7, h8, h9⟩ := (D f fn hf).ex
    obtain ⟨oc, od, kV, doc, pm, an, cdv, ct, osl, e1, lk, hcd⟩ := h4.ex
    refine ⟨x, a, fd, h1, h2, h3, h4.kp, h5, h6, ⟨fun vs H Q E h => by rw [h6]; exact sp_len hf h, fun A outer s H args us vs Q E _ _ _ _ h => ?_⟩, ?_⟩
    · obtain ⟨G, ds, S, rfl, c, r, h⟩ := h
      exact h.elim
    · exact ⟨oc, od, osl, lk⟩
  | k + 1, f, fn, hf => by
    have ih := all_ok F D k
    obtain ⟨x, a, fd, N, y, qual, st, h1, h2, h3, h4, h5, h6, h7, h8, h9⟩ := (D f fn hf).ex
    obtain ⟨oc0, od0, kV0, doc0, pm0, an0, cdv0, ct0, osl0, e0', lk0, hcd0⟩ := h4.ex
    refine ⟨x, a, fd, h1, h2, h3, h4.kp, h5, h6, ?_, oc0, od0, osl0, lk0⟩
    show FnOk P w K mg base (L2.CX P w) (2 * k + 1 + 1) a fd (nm.pn.getD f []) (spZ W (Phi t (k + 1) f))
    refine h4.okX h8 (fun vs H Q E h => by rw [h6]; exact sp_len hf h) fun cdv A outer s H vs Q E hr h => ?_
    have C : Cok W nm t k (fun cls d _ H => E cls d H) N (defScope st) (defScope st) (cxOf (L2.CX P w) P w K mg base N qual (defScope st) a cdv A outer s H E) :=
      { eK := F.eK, eN := rfl, nd := h8.nd, eS := rfl, calm := rfl, room := hr, tk := takes_of rfl rfl rfl rfl, flen := F.flen, fns := fun f fn hf => ⟨by obtain ⟨x, a, fd, z1, z2, z3, z4, z5, z6, z7, _⟩ := ih f fn hf; exact ⟨x, a, fd, _, z1, z2, z3, z4, z5, z6, z7⟩⟩, gls := F.gls, blt := F.blt, fa := F.fa, exc := F.exc, kds := F.kds
        wr := fun x h => by
          unfold locB at h
          split at h
          · rename_i hx; exact ⟨.inl hx, .inl rfl⟩
          · rename_i hx; exact ⟨.inr hx, .inl rfl⟩
          · cases h }
    have hS : Sok (cxOf (L2.CX P w) P w K mg base N qual (defScope st) a cdv A outer s H E) := ⟨passes_of rfl, rfl, rfl⟩
    refine ⟨tS W (fun cls d _ H => E cls d H) (execs (prog t k) fn.body), sndSs fn.body (defBody st) _ _ C hS h9, ?_⟩
    obtain ⟨G, ds, S, rfl, c, r, h⟩ := h
    simp only [Phi, hf] at h
    by_cases hh : ds.length = fn.np ∧ fn.np ≤ fn.ns
    · rw [if_pos hh] at h
      have sr0 := st_start (N := N) c r (by omega)
      have e0 : (⟨ds.map .sh ++ List.replicate (N.length - ds.length) .no, S⟩ : Sta) = ⟨ds.map .sh ++ List.replicate (fn.ns - fn.np) .no, S⟩ := by rw [h7, hh.1]
      rw [e0] at sr0
      refine ⟨G, _, _, rfl, sr0, ?_⟩
      have e1 : (⟨Phi t k, t.glob, t.init, t.meth, t.sub, t.flds, t.kd⟩ : Prog) = prog t k := rfl
      rw [e1] at h
      have hn : G.M.length = S.length := c.1
      have frm0 : ∀ {G' : Gh} {o' : List Addr}, Frm G (Z.ow (List.replicate N.length none)) G' o' → Frm G [] G' o' := fun {G' o'} f => by
        rw [ow_none] at f; exact f
      cases e2 : execs (prog t k) fn.body ⟨ds.map .sh ++ List.replicate (fn.ns - fn.np) .no, S⟩ with
      | stuck => rw [e2] at h; exact h.elim
      | brk s1 => rw [e2] at h; exact h.elim
      | cnt s1 => rw [e2] at h; exact h.elim
      | next s1 =>
        rw [e2] at h
        intro σ' G' O' fr sr
        obtain ⟨G2, g1, g2, g3, g4, g5, g6⟩ := gc_ok sr.cs (frm0 fr) hn []
        have := h .non G2 g4 g5 (ro_val rep_non)
        rw [g1] at this
        exact this
      | ret o d s1 =>
        rw [e2] at h
        intro v σ' G' O' fr sr rr
        obtain ⟨G2, g1, g2, g3, g4, g5, g6⟩ := gc_ok sr.cs (frm0 fr) hn [d]
        have und : G2 = G' ∨ (G2 = cutM G' S.length ∧ d.under S.length = true) := by
          rcases g6 with g6 | ⟨g6, g7⟩
          · exact .inl g6
          · simp only [unders, Bool.and_true] at g7
            exact .inr ⟨g6, g7⟩
        have := h v G2 g4 g5 (by
          unfold RO
          unfold RetRep at rr
          split
          · rename_i ho
            have ho : o = true := ho
            rw [if_pos ho] at rr
            obtain ⟨c', a', z1, z2, z3, z4, z5, z6⟩ := rr
            refine ⟨c', a', z1, z2, ?_, by rw [g2]; exact z4, by simp, fun z => z5 (g3 _ z), ?_⟩
            · rcases und with e | ⟨e, u⟩
              · rw [e]; exact z3
              · rw [e]; exact z3.cut (toCell_under z1 u)
            · rcases z6 with z6 | z6
              · rw [ow_none] at z6; simp at z6
              · exact .inr z6
          · rename_i ho
            have ho : ¬ o = true := ho
            rw [if_neg ho] at rr
            rcases und with e | ⟨e, u⟩
            · rw [e]; exact rr
            · rw [e]; exact Rep.cut _ _ u rr)
        rw [g1] at this
        exact this
      | exn y s1 =>
        rw [e2] at h
        obtain ⟨cc, es⟩ := y
        intro σ' G' O' fr sr cls dx xr
        obtain ⟨G2, g1, g2, g3, g4, g5, g6⟩ := gc_ok sr.cs (frm0 fr) hn es
        have := h G2 cls dx g4 g5 (by
          obtain ⟨C', w1, w2, w3⟩ := xr
          refine ⟨C', w1, w2, ?_⟩
          rcases w3 with w3 | ⟨dd, fvs, w3, w4, w5, w6⟩
          · exact .inl w3
          · refine .inr ⟨dd, fvs, w3, w4, by rw [g1]; exact w5, ?_⟩
            rcases g6 with e | ⟨e, u⟩
            · rw [e]; exact w6
            · rw [e]; exact Reps.cutM _ _ u w6)
        rw [g1] at this
        exact this
    · rw [if_neg hh] at h
      exact h.elim
end
end Z

set_option Elab.async false
set_option linter.all false
set_option maxRecDepth 100000
set_option maxHeartbeats 4000000
set_option autoImplicit false
/-! ZLaw: the head and the end. -/
namespace Z
open PySem PySem.Spec PyProof.Rows L2
/-- what the head asks of the law's def -/
def spLaw (K : PySem.W.Frag) : Sp := fun vs H Q E => ∃ (a : Addr) (ns : List Int), vs = [.ref a] ∧ ns.length ≤ 63 ∧ Only H ∧ SqL K H a (ns.map V.int) ∧ ∀ H', Q (.bl true) H'
theorem law_sp {W : Wo} {K : PySem.W.Frag} {f : List D → List Cell → FRes} (hK : W.K = K) (hf : ∀ ns : List Int, ns.length ≤ 63 → ∃ S, f [.scr ns] [] = .ok false (.bl true) S) {vs : List V} {H : Hp} {Q : VK} {E : XK} (h : spLaw K vs H Q E) : spZ W f vs H Q E := by
  obtain ⟨a, ns, rfl, hl, ho, hs, q⟩ := h
  obtain ⟨S, e⟩ := hf ns hl
  refine ⟨⟨H, fun _ => False, []⟩, [.scr ns], [], rfl, ⟨rfl, fun n c hc => by simp at hc, by simp, fun a h => h.elim⟩, ?_, ?_⟩
  · simp only [Reps]
    refine ⟨.ref a, [], rfl, ?_, rfl⟩
    simp only [Rep]
    refine ⟨a, rfl, ?_⟩
    subst hK
    rcases hs with (hs | ⟨o, hs⟩) | hs
    · rcases ho a with z | ⟨o, xs, z⟩
      · rw [z] at hs; cases hs
      · rw [z] at hs; cases hs
    · exact .inl ⟨o, hs⟩
    · exact .inr hs
  · rw [e]
    intro v G' fr cs ro
    have ro : Rep W G' (.bl true) v := ro
    cases repw_bl ro.w
    exact q G'.H
section
variable {K : PySem.W.Frag} {h : Heap} {mg : Str → Option Value} {W : Wo} {nm : Nm} {t : Tbl}
/-- a def as the head finds it -/
theorem def_mk {f : Nat} {fn : Fn} {x qual : Str} {a : Addr} {st : Stmt} {ps N : List Str} {oc : Value} {od an : Option Addr} {osl : Array (Option Value)} {kV doc pm cdv ct : Value} (X : K.In h) (G : h.Ns mainGlobals mg)
    (e : PySem.W.nsIn K mainGlobals x = some (some (.ref a))) (l : K.lookup a = some ⟨oc, od, .func (PySem.W.fnOf x qual (defArgs st) (defBody st) (defScope st) .none kV doc pm an cdv ct), osl⟩) (c : PySem.W.codeIn K cdv qual = true) (k : PySem.W.keepIn K (.ref a) = true)
    (hn : nm.fn[f]? = some x) (ha : W.fa f = some a) (hb : ∀ (kV doc pm : Value) (an : Option Addr) (cdv ct : Value) (us : List Value), us.length = ps.length → bindArgs (PySem.W.fnOf x qual (defArgs st) (defBody st) (defScope st) .none kV doc pm an cdv ct) ⟨us, []⟩ = pure (ps.zip us))
    (hp : nm.pn.getD f [] = ps) (h1 : ps.length = fn.np) (h2 : N.length = fn.ns) (S : FnScope N ps (defScope st)) (hc : chkSs nm N (defScope st) (defBody st) fn.body = true) : DefF W nm t K mg f fn := by
  have F := fun_mk (st := st) l c k
  subst hp
  exact ⟨x, a, _, N, x, qual, st, hn, ha, PySem.W.mg_of X G e, F, F.binds hb, h1, h2, S, hc⟩
end
def scopeB (N P : List Str) (sc : Scope) : Bool := (match sc.kind with | .function => true | _ => false) && !sc.isCoroutine && !sc.isGenerator && decide N.Nodup && decide (N.take P.length = P) && (P.all fun x => locB sc x) && (sc.names.all fun y => match y.2 with | .free => false | _ => true)
theorem scope_of {N P : List Str} {sc : Scope} (h : scopeB N P sc = true) : FnScope N P sc := by
  unfold scopeB at h
  simp only [Bool.and_eq_true, decide_eq_true_eq, Bool.not_eq_true', List.all_eq_true] at h
  obtain ⟨⟨⟨⟨⟨⟨h1, h2⟩, h3⟩, h4⟩, h5⟩, h6⟩, h7⟩ := h
  refine ⟨?_, h2, h3, h4, h5, fun x hx => ?_, fun y hy e => ?_⟩
  · split at h1
    · assumption
    · cases h1
  · have := h6 x hx
    unfold locB at this
    split at this
    · rename_i z; exact .inl z
    · rename_i z; exact .inr z
    · cases this
  · have := h7 y hy
    rw [e] at this
    cases this
/-- the law's def, at the head -/
theorem law_end {P : Program} {w : World} {K : PySem.W.Frag} {mg : Str → Option Value} {base : Heap} {W : Wo} {nm : Nm} {t : Tbl} {k li : Nat} {fn : Fn} {fa : Addr} {fd : FuncData} {oc : Value} {od : Option Addr} {sl : Array (Option Value)}
    (B : ∃ (x : Str) (a : Addr) (fd : FuncData), nm.fn[li]? = some x ∧ W.fa li = some a ∧ mg x = some (.ref a) ∧ PySem.W.keepIn K (.ref a) = true ∧ Binds K fd (nm.pn.getD li []) [] ∧ (nm.pn.getD li []).length = fn.np ∧
      FnOk P w K mg base (L2.CX P w) (2 * k) a fd (nm.pn.getD li []) (spZ W (Phi t k li)) ∧ ∃ oc od osl, K.lookup a = some ⟨oc, od, .func fd, osl⟩)
    (l : K.lookup fa = some ⟨oc, od, .func fd, sl⟩) (ha : W.fa li = some fa) (hp : nm.pn.getD li [] = (["script"] : List Str)) (hK : W.K = K) (hf : ∀ ns : List Int, ns.length ≤ 63 → ∃ S, Phi t k li [.scr ns] [] = .ok false (.bl true) S) :
    FnOk P w K mg base (L2.CX P w) (2 * k) fa fd ["script"] (spLaw K) := by
  obtain ⟨x, a, fd', z1, z2, z3, z4, z5, z6, z7, oc', od', osl', z8⟩ := B
  rw [ha] at z2; cases z2
  rw [l] at z8; cases z8
  rw [hp] at z7
  exact z7.imp fun vs H Q E h => law_sp hK hf h
/-- the end of a proof -/
theorem walk {l : PySem.W.OpenLaw} {q : Program} {loose : List Str} {XP : (Str → Option Value) → Heap → Prop} {YP : World → Heap → Prop} {d : DefRec} {K : Params → PySem.W.Frag} {kk : Nat} (hn : l.most = some 63) (hdf : d.params.defaults = []) (hr : Room kk callerA)
    (hY : ∀ (w : World) (h : Heap), YP w h → (K w.params).In h)
    (F : ∀ (w : World) (mg : Str → Option Value) (fa : Addr) (h : Heap), (K w.params).In h → h.Ns mainGlobals mg → mg d.name = some (.ref fa) →
      ∃ fd : FuncData, (∀ (s : Shared) (u : Value), BindsTo s fd ⟨[u], []⟩ [("script", u)]) ∧ ∀ base : Heap, (K w.params).In base → base.Ns mainGlobals mg → FnOk l.prog w (K w.params) mg base (L2.CX l.prog w) kk fa fd ["script"] (spLaw (K w.params))) :
    PySem.W.WalkO q loose XP YP l.row.toRowW d [] (fun f vs => PySem.call f vs) :=
  L2.walk_of (n := 63) (k := kk) (x := "script") (CX := fun w => L2.CX l.prog w) (sp := fun w => spLaw (K w.params)) hn (by decide) hdf hr hY F (fun _ _ a ns hl ho hS => ⟨a, ns, rfl, hl, ho, hS, fun _ => rfl⟩) fun _ _ _ _ _ ⟨_, _, _, _, _, _, _, _, _, _, _, _, z⟩ => z
end Z

set_option Elab.async false
set_option linter.all false
set_option maxRecDepth 100000
set_option maxHeartbeats 1000000
set_option autoImplicit false
/-! ZEval: running the interpreter by hand. -/
namespace Z
theorem phi_succ {t : Tbl} {k f : Nat} {fn : Fn} {ds : List D} {S : List Cell} (h : t.fns[f]? = some fn) (h1 : ds.length = fn.np) (h2 : fn.np ≤ fn.ns) :
    Phi t (k + 1) f ds S = fin S.length (execs (prog t k) fn.body ⟨ds.map .sh ++ List.replicate (fn.ns - fn.np) .no, S⟩) := by
  simp only [Phi, h]
  rw [if_pos ⟨h1, h2⟩]
  rfl
section
variable {c : Sta → Res Bool} {b : Sta → RS}
theorem whileN_mono : ∀ {n m : Nat} {s : Sta}, n ≤ m → whileN c b n s ≠ .stuck → whileN c b m s = whileN c b n s
  | 0, _, s, _, h => absurd rfl h
  | n + 1, 0, s, h, _ => by omega
  | n + 1, m + 1, s, hm, h => by
    simp only [whileN] at h ⊢
    cases e : c s with
    | stuck => rfl
    | exn x s1 => rfl
    | ok a s1 =>
      rw [e] at h
      simp only [Res.then] at h ⊢
      cases a with
      | false => rfl
      | true =>
        simp only [if_true] at h ⊢
        cases e2 : b s1 with
        | next s2 => rw [e2] at h; exact whileN_mono (Nat.le_of_succ_le_succ hm) h
        | cnt s2 => rw [e2] at h; exact whileN_mono (Nat.le_of_succ_le_succ hm) h
        | _ => rfl
theorem whileL_of {n : Nat} {s : Sta} (h : whileN c b n s ≠ .stuck) : whileL c b s = whileN c b n s := by
  have ex : ∃ n, whileN c b n s ≠ .stuck := ⟨n, h⟩
  unfold whileL
  rw [dif_pos ex]
  have hc := Classical.choose_spec ex
  rcases Nat.le_total (Classical.choose ex) n with q | q
  · exact (whileN_mono q hc).symm
  · exact whileN_mono q h
theorem whileL_exn {n : Nat} {s : Sta} (h : whileL c b s ≠ .stuck) : ∃ n, whileN c b n s = whileL c b s ∧ whileN c b n s ≠ .stuck := by
  unfold whileL at h
  split at h
  · rename_i ex
    refine ⟨Classical.choose ex, ?_, Classical.choose_spec ex⟩
    unfold whileL
    rw [dif_pos ex]
  · exact absurd rfl h
theorem while_end {s s1 : Sta} (h : c s = .ok false s1) : whileL c b s = .next s1 := by
  have e : whileN c b 1 s = .next s1 := by simp [whileN, h, Res.then]
  rw [whileL_of (n := 1) (by rw [e]; simp), e]
theorem while_next {s s1 s2 : Sta} (h : c s = .ok true s1) (h2 : b s1 = .next s2 ∨ b s1 = .cnt s2) (h3 : whileL c b s2 ≠ .stuck) : whileL c b s = whileL c b s2 := by
  obtain ⟨n, e, hn⟩ := whileL_exn (n := 0) h3
  have e1 : whileN c b (n + 1) s = whileN c b n s2 := by
    rcases h2 with h2 | h2 <;> simp [whileN, h, h2, Res.then]
  rw [whileL_of (n := n + 1) (by rw [e1]; exact hn), e1, e]
theorem while_brk {s s1 s2 : Sta} (h : c s = .ok true s1) (h2 : b s1 = .brk s2) : whileL c b s = .next s2 := by
  have e : whileN c b 1 s = .next s2 := by simp [whileN, h, h2, Res.then]
  rw [whileL_of (n := 1) (by rw [e]; simp), e]
theorem while_exn {s s1 s2 : Sta} {x : Exn} (h : c s = .ok true s1) (h2 : b s1 = .exn x s2) : whileL c b s = .exn x s2 := by
  have e : whileN c b 1 s = .exn x s2 := by simp [whileN, h, h2, Res.then]
  rw [whileL_of (n := 1) (by rw [e]; simp), e]
theorem while_ret {s s1 s2 : Sta} {o : Bool} {d : D} (h : c s = .ok true s1) (h2 : b s1 = .ret o d s2) : whileL c b s = .ret o d s2 := by
  have e : whileN c b 1 s = .ret o d s2 := by simp [whileN, h, h2, Res.then]
  rw [whileL_of (n := 1) (by rw [e]; simp), e]
end
section
variable {P : Prog} {x : S} {xs : List S} {s s1 : Sta}
theorem seq_next (h : exec P x s = .next s1) : execs P (x :: xs) s = execs P xs s1 := by simp [execs, h, RS.seq]
theorem seq_ret {o : Bool} {d : D} (h : exec P x s = .ret o d s1) : execs P (x :: xs) s = .ret o d s1 := by simp [execs, h, RS.seq]
theorem seq_exn {e : Exn} (h : exec P x s = .exn e s1) : execs P (x :: xs) s = .exn e s1 := by simp [execs, h, RS.seq]
theorem execs_nil : execs P [] s = .next s := by simp [execs]
end
theorem gc_id {n : Nat} {ds : List D} {S : List Cell} (h : S.length = n) : gc n ds S = S := by simp [gc, h]

/-! ### numbers as texts -/
theorem dchar (d : Nat) (h : d < 10) : (Nat.digitChar d).toNat = 48 + d := by
  match d, h with
  | 0, _ => rfl
  | 1, _ => rfl
  | 2, _ => rfl
  | 3, _ => rfl
  | 4, _ => rfl
  | 5, _ => rfl
  | 6, _ => rfl
  | 7, _ => rfl
  | 8, _ => rfl
  | 9, _ => rfl
  | n + 10, h => omega
theorem digits_rec (n : Nat) : digits n = if n < 10 then [48 + n] else digits (n / 10) ++ [48 + n % 10] := by
  unfold digits
  rw [Nat.toDigits_eq_if (by decide)]
  split
  · rename_i h; simp [dchar n h]
  · simp [dchar (n % 10) (Nat.mod_lt _ (by decide))]
theorem digits_lt10 {n : Nat} (h : n < 10) : digits n = [48 + n] := by rw [digits_rec, if_pos h]
theorem digits_snoc {n d : Nat} (hn : 0 < n) (hd : d < 10) : digits (10 * n + d) = digits n ++ [48 + d] := by
  rw [digits_rec, if_neg (by omega)]
  have e1 : (10 * n + d) / 10 = n := by omega
  have e2 : (10 * n + d) % 10 = d := by omega
  rw [e1, e2]
theorem digits_ne (n : Nat) : digits n ≠ [] := by
  rw [digits_rec]
  split <;> simp
theorem allDig_digits (n : Nat) : allDig (digits n) = true := by
  induction n using Nat.strongRecOn with
  | ind n ih =>
    rw [digits_rec]
    split
    · rename_i h; simp [allDig]; omega
    · have := ih (n / 10) (by omega)
      unfold allDig at this ⊢
      rw [List.all_append, this]
      simp
      omega
theorem digVal_acc (x : List Nat) : ∀ a, x.foldl (fun a c => a * 10 + (c - 48)) a = a * 10 ^ x.length + digVal x := by
  induction x with
  | nil => intro a; simp [digVal]
  | cons c x ih =>
    intro a
    unfold digVal
    simp only [List.foldl_cons, List.length_cons]
    rw [ih, ih (0 * 10 + (c - 48))]
    rw [Nat.pow_succ, Nat.add_mul, Nat.zero_mul, Nat.zero_add, Nat.mul_assoc, Nat.mul_comm 10 (10 ^ x.length), Nat.add_assoc]
theorem digVal_app (x y : List Nat) : digVal (x ++ y) = digVal x * 10 ^ y.length + digVal y := by
  have := digVal_acc y (digVal x)
  unfold digVal at this ⊢
  rw [List.foldl_append]
  exact this
theorem digVal_digits (n : Nat) : digVal (digits n) = n := by
  induction n using Nat.strongRecOn with
  | ind n ih =>
    rw [digits_rec]
    split
    · simp [digVal]
    · rw [digVal_app, ih (n / 10) (by omega)]
      simp [digVal]
      omega
theorem digits_head {n : Nat} (h : 0 < n) : ∃ c r, digits n = c :: r ∧ 48 < c := by
  induction n using Nat.strongRecOn with
  | ind n ih =>
    rw [digits_rec]
    split
    · exact ⟨_, _, rfl, by omega⟩
    · obtain ⟨c, r, e, hc⟩ := ih (n / 10) (by omega) (by omega)
      rw [e]
      exact ⟨c, r ++ _, rfl, hc⟩
theorem digits_len {n k : Nat} (hk : 0 < k) (h : n < 10 ^ k) : (digits n).length ≤ k := by
  induction n using Nat.strongRecOn generalizing k with
  | ind n ih =>
    rw [digits_rec]
    split
    · simp; omega
    · rename_i h10
      match k, hk with
      | 1, _ => simp at h; omega
      | k + 2, _ =>
        have : n / 10 < 10 ^ (k + 1) := by
          rw [Nat.pow_succ] at h
          omega
        have := ih (n / 10) (by omega) (by omega) this
        simp
        omega
theorem digVal_lt {x : List Nat} (h : allDig x = true) : digVal x < 10 ^ x.length := by
  induction x with
  | nil => simp [digVal]
  | cons c x ih =>
    unfold allDig at h
    simp only [List.all_cons, Bool.and_eq_true, decide_eq_true_eq] at h
    have := ih h.2
    have e := digVal_app [c] x
    simp only [List.singleton_append] at e
    rw [e, List.length_cons, Nat.pow_succ]
    have e2 : digVal [c] = c - 48 := by simp [digVal]
    rw [e2]
    have : (c - 48) * 10 ^ x.length ≤ 9 * 10 ^ x.length := Nat.mul_le_mul_right _ (by omega)
    omega
/-- of fixed width -/
def fw : Nat → Nat → List Nat
  | 0, _ => []
  | m + 1, b => fw m (b / 10) ++ [48 + b % 10]
theorem fw_len : ∀ m b, (fw m b).length = m
  | 0, _ => rfl
  | m + 1, b => by simp [fw, fw_len m]
theorem digits_fw {a : Nat} (ha : 0 < a) : ∀ (m b : Nat), b < 10 ^ m → digits (a * 10 ^ m + b) = digits a ++ fw m b
  | 0, b, h => by
    have : b = 0 := by simp at h; exact h
    subst this
    simp [fw]
  | m + 1, b, h => by
    rw [Nat.pow_succ] at h
    have h1 : b / 10 < 10 ^ m := by omega
    have e : a * 10 ^ (m + 1) + b = 10 * (a * 10 ^ m + b / 10) + b % 10 := by
      rw [Nat.pow_succ, ← Nat.mul_assoc]
      omega
    have pos : 0 < a * 10 ^ m + b / 10 := by
      have : 0 < a * 10 ^ m := Nat.mul_pos ha (Nat.pow_pos (by decide))
      omega
    rw [e, digits_snoc pos (Nat.mod_lt _ (by decide)), digits_fw ha m (b / 10) h1]
    simp [fw]
theorem fw_zero : ∀ m, fw m 0 = List.replicate m 48
  | 0 => rfl
  | m + 1 => by
    simp only [fw, Nat.zero_div, Nat.zero_mod]
    rw [fw_zero m]
    exact (List.replicate_succ' ..).symm
theorem pad_fw : ∀ (m b : Nat), 0 < m → b < 10 ^ m → List.replicate (m - (digits b).length) 48 ++ digits b = fw m b
  | m + 1, b, _, h => by
    by_cases h10 : b < 10
    · rw [digits_lt10 h10]
      simp only [fw]
      have e1 : b / 10 = 0 := by omega
      have e2 : b % 10 = b := by omega
      rw [e1, e2, fw_zero]
      simp
    · have hm : 0 < m := by
        cases m with
        | zero => simp at h; omega
        | succ m => omega
      rw [Nat.pow_succ] at h
      have ih := pad_fw m (b / 10) hm (by omega)
      have e : digits b = digits (b / 10) ++ [48 + b % 10] := by rw [digits_rec, if_neg h10]
      rw [e]
      simp only [fw]
      rw [← ih]
      simp [Nat.add_sub_add_right]
end Z
namespace Z
theorem sIx_nn {n d : Nat} (v : Nat) : sIx n d (some (v : Int)) = min v n := by
  simp only [sIx]
  rw [if_neg (by omega)]
  omega
theorem cut_to {α : Type} (x : List α) (k : Nat) : cut x none (some (k : Int)) = x.take k := by
  unfold cut
  rw [sIx_nn]
  simp only [sIx, List.drop_zero, Nat.sub_zero]
  rcases Nat.le_total k x.length with h | h
  · rw [Nat.min_eq_left h]
  · rw [Nat.min_eq_right h, List.take_of_length_le (Nat.le_refl _), List.take_of_length_le h]
theorem cut_from {α : Type} (x : List α) (k : Nat) : cut x (some (k : Int)) none = x.drop k := by
  unfold cut
  rw [sIx_nn]
  simp only [sIx]
  rcases Nat.le_total k x.length with h | h
  · rw [Nat.min_eq_left h, List.take_of_length_le (by simp)]
  · rw [Nat.min_eq_right h]
    simp [List.drop_of_length_le h]
theorem cut_mid {α : Type} (x : List α) (a b : Nat) : cut x (some (a : Int)) (some (b : Int)) = (x.drop a).take (b - a) := by
  unfold cut
  rw [sIx_nn, sIx_nn]
  rcases Nat.le_total a x.length with h | h
  · rw [Nat.min_eq_left h]
    rcases Nat.le_total b x.length with h2 | h2
    · rw [Nat.min_eq_left h2]
    · rw [Nat.min_eq_right h2, List.take_of_length_le (by simp), List.take_of_length_le (by simp; omega)]
  · rw [Nat.min_eq_right h, List.drop_of_length_le h]
    simp [List.drop_of_length_le (Nat.le_refl x.length)]
theorem fit_str (x : List Nat) : (D.str x).fit = true := by simp [D.fit, D.plain, D.deep]
theorem fit_int (x : Int) : (D.int x).fit = true := by simp [D.fit, D.plain, D.deep]
theorem atI_nat {α : Type} (x : List α) (i : Nat) : atI x (i : Int) = x[i]? := by
  unfold atI ixN
  rw [if_pos (by omega)]
  by_cases h : i < x.length
  · rw [if_pos (by omega)]; simp
  · rw [if_neg (by omega), List.getElem?_eq_none (by omega)]; rfl
theorem atI_zero {α : Type} (c : α) (r : List α) : atI (c :: r) 0 = some c := by
  have := atI_nat (c :: r) 0
  simpa using this
/-- the body of a for -/
noncomputable abbrev fbody (P : Prog) (tg : Tg) (b : List S) : D → Sta → RS := fun d s2 => match assign tg d s2.σ with
      | some σ' => execs P b { s2 with σ := σ' }
      | none => .stuck
theorem exec_fr {P : Prog} {tg : Tg} {it : It} {b : List S} {s s1 : Sta} {ds : List D} (h : evit P it s = .ok ds s1) : exec P (.fr tg it b) s = forL (fbody P tg b) ds s1 := by
  simp only [exec]
  rw [h]
  rfl
theorem exec_whl {P : Prog} {t : T} {b : List S} {s : Sta} : exec P (.whl t b) s = whileL (evt P t) (execs P b) s := by
  simp only [exec]
theorem evit_rng {P : Prog} {es : List E} {s s1 : Sta} {ds r : List D} (h : evs P es s = .ok ds s1) (h2 : rangeD ds = some r) : evit P (.rng es) s = .ok r s1 := by
  simp only [evit, h, Res.bind, lift, h2]
/-- a turn of a comprehension -/
noncomputable abbrev cturn (P : Prog) (tg : Tg) (vs : List Nat) (ifs : List T) (e : E) : D → Sta → Res (Option D) := fun d s2 => noX (match assign tg d s2.σ with
            | some σ' => (evts P ifs { s2 with σ := σ' }).bind fun b s3 => if b then (ev P e s3).bind fun x s4 => .ok (some x.2) { s4 with σ := wipeZ s4.σ vs } else .ok none { s3 with σ := wipeZ s3.σ vs }
            | none => .stuck)
theorem ev_comp {P : Prog} {tg : Tg} {vs : List Nat} {it : It} {ifs : List T} {e : E} {s s1 s5 : Sta} {ds r : List D} (h : evit P it s = .ok ds s1) (hs : (vs.all fun v => isSh (s1.σ.getD v .no)) = true) (h2 : compL (cturn P tg vs ifs e) ds [] { s1 with σ := wipeZ s1.σ vs } = .ok r s5) :
    ev P (.comp tg vs it ifs e) s = .ok (true, .lst r) { s5 with σ := backZ s1.σ s5.σ vs } := by
  have e0 : ev P (.comp tg vs it ifs e) s = (evit P it s).bind fun ds s1 => if (vs.all fun v => isSh (s1.σ.getD v .no)) = true then (compL (cturn P tg vs ifs e) ds [] { s1 with σ := wipeZ s1.σ vs }).bind fun r s5 => .ok (true, .lst r) { s5 with σ := backZ s1.σ s5.σ vs } else .stuck := by
    first | (simp only [ev]; done) | (simp only [ev]; rfl)
  rw [e0, h]
  show (if (vs.all fun v => isSh (s1.σ.getD v .no)) = true then (compL (cturn P tg vs ifs e) ds [] { s1 with σ := wipeZ s1.σ vs }).bind fun r s5 => Res.ok (true, D.lst r) { s5 with σ := backZ s1.σ s5.σ vs } else .stuck) = _
  rw [if_pos hs, h2]
  rfl
section
variable {P : Prog} {s s1 s2 s3 : Sta}
def notV : E → Bool
  | .v _ => false
  | _ => true
theorem rd_of {e : E} {x : Bool × D} (h : ev P e s = .ok x s1) (hv : notV e = true := by rfl) : rdArg e (ev P e) s = .ok (.val x.2) s1 := by
  cases e <;> first | (cases hv; done) | (simp only [rdArg, h, Res.bind])
theorem ev_pr1 {p : Prim} {a : E} {x : Arg} {d : D} {r : Bool × D} (h : rdArg a (ev P a) s = .ok x s1) (hg : x.get s1 = some d) (hp : prim1 p d = some r) : ev P (.pr p [a]) s = .ok r s1 := by
  simp [ev, evrs, h, Res.bind, getAll, hg, lift, prim, hp]
theorem ev_pr2 {p : Prim} {a b : E} {x y : Arg} {d e : D} {r : Bool × D} (h : rdArg a (ev P a) s = .ok x s1) (h2 : rdArg b (ev P b) s1 = .ok y s2) (hg : x.get s2 = some d) (hg2 : y.get s2 = some e) (hp : prim2 p d e = some r) : ev P (.pr p [a, b]) s = .ok r s2 := by
  simp [ev, evrs, h, h2, Res.bind, getAll, hg, hg2, lift, prim, hp]
theorem ev_mp1 {m : MPrim} {o a : E} {x y : Arg} {d d' e : D} {r : Bool × D} (h : rdArg o (ev P o) s = .ok x s1) (hg : x.get s1 = some d) (hr : mrecv m d = true) (h2 : rdArg a (ev P a) s1 = .ok y s2) (hg1 : x.get s2 = some d') (hg2 : y.get s2 = some e) (hp : mprim2 m d' e = some r) : ev P (.mp m o [a]) s = .ok r s2 := by
  simp [ev, evrs, h, h2, hr, Res.bind, getAll, hg, hg1, hg2, lift, mprim, hp]
theorem get_val {d : D} (h : (match d with | .ref _ => false | _ => true) = true) : (Arg.val d).get s = some d := by
  cases d <;> first | rfl | cases h
end
theorem compL_map {turn : D → Sta → Res (Option D)} {f : D → D} {s : Sta} : ∀ (ds acc : List D), (∀ d ∈ ds, turn d s = .ok (some (f d)) s) → acc.length + ds.length ≤ LIM → compL turn ds acc s = .ok (acc ++ ds.map f) s
  | [], acc, _, _ => by simp [compL]
  | d :: ds, acc, h, hl => by
    simp only [List.length_cons] at hl
    simp only [compL, h d List.mem_cons_self, Res.bind]
    rw [if_pos (by omega), compL_map ds (acc ++ [f d]) (fun x hx => h x (List.mem_cons_of_mem _ hx)) (by simp; omega)]
    simp
section
variable {P : Prog} {s s1 s2 : Sta}
theorem exec_ret {e : E} {x : Bool × D} (h : ev P e s = .ok x s1) (hv : notV e = true := by rfl) : exec P (.ret e) s = .ret x.1 x.2 s1 := by
  cases e <;> first | (cases hv; done) | (simp only [exec, h, Res.then])
theorem exec_if_true {t : T} {a b : List S} {r : RS} (h : evt P t s = .ok true s1) (h2 : execs P a s1 = r) : exec P (.ife t a b) s = r := by
  simp only [exec, h, Res.then, if_true, h2]
theorem exec_if_false {t : T} {a b : List S} {r : RS} (h : evt P t s = .ok false s1) (h2 : execs P b s1 = r) : exec P (.ife t a b) s = r := by
  simp [exec, h, Res.then, h2]
theorem exec_set {i : Nat} {e : E} {x : Bool × D} (h : ev P e s = .ok x s1) : exec P (.set i e) s = bindTo i x.1 x.2 s1 := by
  simp only [exec, h, Res.then]
theorem exec_exp {e : E} {x : Bool × D} (h : ev P e s = .ok x s1) : exec P (.exp e) s = .next s1 := by
  simp only [exec, h, Res.then]
end
theorem execs_app {P : Prog} : ∀ (xs ys : List S) (s s1 : Sta), execs P xs s = .next s1 → execs P (xs ++ ys) s = execs P ys s1
  | [], ys, s, s1, h => by rw [execs_nil] at h; cases h; rfl
  | x :: xs, ys, s, s1, h => by
    rw [List.cons_append]
    cases e : exec P x s with
    | next s2 =>
      rw [seq_next e] at h ⊢
      exact execs_app xs ys s2 s1 h
    | _ => simp [execs, e, RS.seq] at h
theorem ev_tup2 {P : Prog} {a b : E} {x y : Bool × D} {s s1 s2 : Sta} (h : ev P a s = .ok x s1) (h2 : ev P b s1 = .ok y s2) : ev P (.tup [a, b]) s = .ok (false, .tup [x.2, y.2]) s2 := by
  have h3 : 2 ≤ LIM := by decide
  simp [ev, evs, h, h2, Res.bind, h3]
end Z

set_option Elab.async false
set_option linter.all false
set_option maxRecDepth 100000
set_option maxHeartbeats 1000000
set_option autoImplicit false
/-! ZWalk: loops and comprehensions over typed data. -/
namespace Z
section
variable {t : Tbl} {k : Nat}
theorem call_eq {f : Nat} {ds : List D} {S : List Cell} : (prog t k).call f ds S = Phi t k f ds S := rfl
theorem glob_eq {n : Nat} : (prog t k).glob n = t.glob n := rfl
theorem kd_eq {n : Nat} : (prog t k).kd n = t.kd n := rfl
end
theorem one_ret {P : Prog} {x : S} {s : Sta} : execs P [x] s = exec P x s := by
  simp only [execs]
  cases exec P x s <;> rfl
theorem rangeL_map : ∀ (n lo : Nat), rangeL (lo : Int) n = (List.range' lo n).map fun (i : Nat) => D.int i
  | 0, _ => rfl
  | n + 1, lo => by
    have e : (lo : Int) + 1 = ((lo + 1 : Nat) : Int) := by omega
    simp only [rangeL, List.range'_succ, List.map_cons]
    rw [e, rangeL_map n (lo + 1)]
theorem rangeL_zero (n : Nat) : rangeL 0 n = (List.range n).map fun (i : Nat) => D.int i := by
  rw [List.range_eq_range']
  exact rangeL_map n 0
theorem range_one (n : Nat) (h : n ≤ LIM) : rangeD [.int n] = some ((List.range n).map fun (i : Nat) => D.int i) := by
  have hL : LIM = 16777216 := rfl
  simp only [rangeD]
  rw [if_pos (by unfold RLIM; omega), Int.toNat_natCast, rangeL_zero]
theorem compL_typed {X : Type} {turn : D → Sta → Res (Option D)} {toD : X → D} {g : X → Option D} {s : Sta} : ∀ (xs : List X) (acc : List D), (∀ x ∈ xs, turn (toD x) s = .ok (g x) s) → acc.length + xs.length ≤ LIM → compL turn (xs.map toD) acc s = .ok (acc ++ xs.filterMap g) s
  | [], acc, _, _ => by simp [compL]
  | x :: xs, acc, h, hl => by
    simp only [List.length_cons] at hl
    simp only [List.map_cons, compL, h x List.mem_cons_self, Res.bind]
    cases e : g x with
    | none =>
      simp only [List.filterMap_cons, e]
      exact compL_typed xs acc (fun y hy => h y (List.mem_cons_of_mem _ hy)) (by omega)
    | some d =>
      simp only [List.filterMap_cons, e]
      rw [if_pos (by omega), compL_typed xs (acc ++ [d]) (fun y hy => h y (List.mem_cons_of_mem _ hy)) (by simp; omega)]
      simp
/-- a comprehension that changes no name and no cell -/
theorem ev_compT {X : Type} {P : Prog} {tg : Tg} {vs : List Nat} {it : It} {ifs : List T} {e : E} {σ σ1 σw σ2 : List Slot} {S S1 : List Cell} (xs : List X) (toD : X → D) (g : X → Option D) (hit : evit P it ⟨σ, S⟩ = .ok (xs.map toD) ⟨σ1, S1⟩) (hs : (vs.all fun v => isSh (σ1.getD v .no)) = true)
    (hw : wipeZ σ1 vs = σw) (ht : ∀ x ∈ xs, cturn P tg vs ifs e (toD x) ⟨σw, S1⟩ = .ok (g x) ⟨σw, S1⟩) (hl : xs.length ≤ LIM) (hb : backZ σ1 σw vs = σ2) : ev P (.comp tg vs it ifs e) ⟨σ, S⟩ = .ok (true, .lst (xs.filterMap g)) ⟨σ2, S1⟩ := by
  have h2 := compL_typed (turn := cturn P tg vs ifs e) (toD := toD) (g := g) (s := ⟨σw, S1⟩) xs [] ht (by simpa using hl)
  have := ev_comp (s := ⟨σ, S⟩) (s1 := ⟨σ1, S1⟩) (s5 := ⟨σw, S1⟩) hit hs (by rw [← hw] at h2 ⊢; exact h2)
  rw [this, hb, List.nil_append]
theorem filterMap_some {X Y : Type} (f : X → Y) (xs : List X) : xs.filterMap (fun x => some (f x)) = xs.map f := by
  induction xs with
  | nil => rfl
  | cons x xs ih => simp [ih]
theorem filterMap_if {X Y : Type} (p : X → Bool) (f : X → Y) (xs : List X) : xs.filterMap (fun x => if p x = true then some (f x) else none) = (xs.filter p).map f := by
  induction xs with
  | nil => rfl
  | cons x xs ih =>
    cases h : p x <;> simp [h, ih]
theorem forL_acc {X A : Type} {body : D → Sta → RS} {toD : X → D} {st : A → Sta} {step : A → X → A} (Good : A → List X → Prop) : ∀ (xs : List X) (a : A), Good a xs → (∀ a x r, x ∈ xs → Good a (x :: r) → body (toD x) (st a) = .next (st (step a x)) ∧ Good (step a x) r) → forL body (xs.map toD) (st a) = .next (st (xs.foldl step a))
  | [], a, _, _ => by simp [forL]
  | x :: xs, a, hg, h => by
    obtain ⟨h1, h2⟩ := h a x xs List.mem_cons_self hg
    simp only [List.map_cons, forL, h1, List.foldl_cons]
    exact forL_acc Good xs (step a x) h2 fun a y r hy => h a y r (List.mem_cons_of_mem _ hy)
/-- what is found is put behind -/
theorem forL_app {X Y : Type} {body : D → Sta → RS} {toD : X → D} {st : List Y → Sta} {f : X → List Y} (N : Nat) : ∀ (xs : List X) (acc : List Y), acc.length + (xs.flatMap f).length ≤ N → (∀ acc x, x ∈ xs → acc.length + (f x).length ≤ N → body (toD x) (st acc) = .next (st (acc ++ f x))) →
    forL body (xs.map toD) (st acc) = .next (st (acc ++ xs.flatMap f))
  | [], acc, _, _ => by simp [forL]
  | x :: xs, acc, hl, h => by
    simp only [List.flatMap_cons, List.length_append] at hl
    simp only [List.map_cons, forL, h acc x List.mem_cons_self (by omega)]
    rw [forL_app N xs (acc ++ f x) (by rw [List.length_append]; omega) fun a y hy => h a y (List.mem_cons_of_mem _ hy)]
    simp
/-- by an invariant -/
theorem forL_inv {X : Type} {body : D → Sta → RS} {toD : X → D} (I : List X → Sta → Prop) : ∀ (xs done : List X) (s : Sta), I done s → (∀ done x s, x ∈ xs → I done s → ∃ s', body (toD x) s = .next s' ∧ I (done ++ [x]) s') → ∃ s', forL body (xs.map toD) s = .next s' ∧ I (done ++ xs) s'
  | [], done, s, h, _ => ⟨s, rfl, by simpa using h⟩
  | x :: xs, done, s, h, hs => by
    obtain ⟨s1, h1, h2⟩ := hs done x s List.mem_cons_self h
    obtain ⟨s2, h3, h4⟩ := forL_inv I xs (done ++ [x]) s1 h2 fun d y s hy => hs d y s (List.mem_cons_of_mem _ hy)
    exact ⟨s2, by simp only [List.map_cons, forL, h1]; exact h3, by simpa using h4⟩
theorem atI_1 {α : Type} (a b : α) (r : List α) : atI (a :: b :: r) 1 = some b := by have := atI_nat (a :: b :: r) 1; simpa using this
theorem atI_2 {α : Type} (a b c : α) (r : List α) : atI (a :: b :: c :: r) 2 = some c := by have := atI_nat (a :: b :: c :: r) 2; simpa using this
theorem atI_3 {α : Type} (a b c d : α) (r : List α) : atI (a :: b :: c :: d :: r) 3 = some d := by have := atI_nat (a :: b :: c :: d :: r) 3; simpa using this
theorem atI_4 {α : Type} (a b c d e : α) (r : List α) : atI (a :: b :: c :: d :: e :: r) 4 = some e := by have := atI_nat (a :: b :: c :: d :: e :: r) 4; simpa using this
theorem atI_8 {α : Type} (a b c d e f g h i : α) (r : List α) : atI (a :: b :: c :: d :: e :: f :: g :: h :: i :: r) 8 = some i := by have := atI_nat (a :: b :: c :: d :: e :: f :: g :: h :: i :: r) 8; simpa using this
theorem atI_5 {α : Type} (a b c d e f : α) (r : List α) : atI (a :: b :: c :: d :: e :: f :: r) 5 = some f := by have := atI_nat (a :: b :: c :: d :: e :: f :: r) 5; simpa using this
end Z

set_option Elab.async false
set_option linter.all false
set_option maxRecDepth 100000
set_option maxHeartbeats 1000000
set_option autoImplicit false
/-! ZLoop: statements one by one; loops that leave names behind. -/
namespace Z
section
variable {P : Prog} {s : Sta}
theorem ex_set {i : Nat} {e : E} : exec P (.set i e) s = (ev P e s).then fun x s1 => bindTo i x.1 x.2 s1 := by simp only [exec] <;> rfl
theorem ex_setT {tg : Tg} {e : E} : exec P (.setT tg e) s = (ev P e s).then fun x s1 => match assign tg x.2 s1.σ with
    | some σ' => .next { s1 with σ := σ' }
    | none => .stuck := by simp only [exec] <;> rfl
theorem ex_aug {i : Nat} {op : PySem.Operator} {e : E} : exec P (.aug i op e) s = (match s.σ[i]? with
    | some (.sh d) => (ev P e s).then fun y s1 => match augD op d y.2 with
      | some r => bindTo i false r s1
      | none => .stuck
    | _ => .stuck) := by simp only [exec] <;> rfl
theorem ex_put {o k e : E} : exec P (.put o k e) s = (ev P e s).then fun x s1 => (rdPlace o (ev P o) s1).then fun p s2 => (ev P k s2).then fun i s3 => match p.get s3 with
    | some c => match putC c i.2 x.2 with
      | some c' => .next (p.set s3 c')
      | none => .stuck
    | none => .stuck := by simp only [exec] <;> rfl
theorem ex_retv {i : Nat} : exec P (.ret (.v i)) s = (match s.σ[i]? with
      | some (.own c) => match c.view with
        | some d => .ret true d s
        | none => .stuck
      | some (.sh d) => .ret false d s
      | _ => .stuck) := by simp only [exec] <;> rfl
theorem ex_ret {e : E} (h : notV e = true) : exec P (.ret e) s = (ev P e s).then fun x s1 => .ret x.1 x.2 s1 := by
  cases e <;> first | (cases h; done) | (simp only [exec] <;> rfl)
theorem ex_retN : exec P .retN s = .ret false .non s := by simp only [exec] <;> rfl
theorem ex_ife {t : T} {a b : List S} : exec P (.ife t a b) s = (evt P t s).then fun c s1 => if c then execs P a s1 else execs P b s1 := by simp only [exec] <;> rfl
theorem ex_brk : exec P .brk s = .brk s := by simp only [exec] <;> rfl
theorem ex_cnt : exec P .cnt s = .cnt s := by simp only [exec] <;> rfl
theorem ex_pass : exec P .pass s = .next s := by simp only [exec] <;> rfl
theorem ex_exp {e : E} : exec P (.exp e) s = (ev P e s).then fun _ s1 => .next s1 := by simp only [exec] <;> rfl
theorem ex_rais {c : Nat} {es : List E} : exec P (.rais c es) s = (evs P es s).then fun ds s1 => .exn (.mk c ds) s1 := by simp only [exec] <;> rfl
theorem exs_nil : execs P [] s = .next s := by simp only [execs]
theorem exs_cons {x : S} {xs : List S} : execs P (x :: xs) s = (exec P x s).seq (execs P xs) := by simp only [execs]
theorem rt_lit {d : D} : exec P (.ret (.lit d)) s = (ev P (.lit d) s).then fun x s1 => .ret x.1 x.2 s1 := ex_ret rfl
theorem rt_g {d : Nat} : exec P (.ret (.g d)) s = (ev P (.g d) s).then fun x s1 => .ret x.1 x.2 s1 := ex_ret rfl
theorem rt_pr {p : Prim} {es : List E} : exec P (.ret (.pr p es)) s = (ev P (.pr p es) s).then fun x s1 => .ret x.1 x.2 s1 := ex_ret rfl
theorem rt_sl {a : E} {l h : Option E} : exec P (.ret (.sl a l h)) s = (ev P (.sl a l h) s).then fun x s1 => .ret x.1 x.2 s1 := ex_ret rfl
theorem rt_mp {m : MPrim} {o : E} {es : List E} : exec P (.ret (.mp m o es)) s = (ev P (.mp m o es) s).then fun x s1 => .ret x.1 x.2 s1 := ex_ret rfl
theorem rt_mu {m : Mut} {o : E} {es : List E} : exec P (.ret (.mu m o es)) s = (ev P (.mu m o es) s).then fun x s1 => .ret x.1 x.2 s1 := ex_ret rfl
theorem rt_tup {es : List E} : exec P (.ret (.tup es)) s = (ev P (.tup es) s).then fun x s1 => .ret x.1 x.2 s1 := ex_ret rfl
theorem rt_lst {es : List E} : exec P (.ret (.lst es)) s = (ev P (.lst es) s).then fun x s1 => .ret x.1 x.2 s1 := ex_ret rfl
theorem rt_call {f : Nat} {es : List E} : exec P (.ret (.call f es)) s = (ev P (.call f es) s).then fun x s1 => .ret x.1 x.2 s1 := ex_ret rfl
theorem rt_callv {f : Nat} {es : List E} : exec P (.ret (.callv f es)) s = (ev P (.callv f es) s).then fun x s1 => .ret x.1 x.2 s1 := ex_ret rfl
theorem rt_notV {e : E} : exec P (.ret (.notV e)) s = (ev P (.notV e) s).then fun x s1 => .ret x.1 x.2 s1 := ex_ret rfl
theorem rt_bopV {b : Bool} {es : List E} : exec P (.ret (.bopV b es)) s = (ev P (.bopV b es) s).then fun x s1 => .ret x.1 x.2 s1 := ex_ret rfl
theorem rt_ite {t : T} {a b : E} : exec P (.ret (.ite t a b)) s = (ev P (.ite t a b) s).then fun x s1 => .ret x.1 x.2 s1 := ex_ret rfl
theorem rt_cell {e : E} : exec P (.ret (.cell e)) s = (ev P (.cell e) s).then fun x s1 => .ret x.1 x.2 s1 := ex_ret rfl
theorem rt_kin {b : Bool} {g : Nat} {e : E} : exec P (.ret (.kin b g e)) s = (ev P (.kin b g e) s).then fun x s1 => .ret x.1 x.2 s1 := ex_ret rfl
theorem rt_kix {g : Nat} {e : E} : exec P (.ret (.kix g e)) s = (ev P (.kix g e) s).then fun x s1 => .ret x.1 x.2 s1 := ex_ret rfl
theorem rt_comp {tg : Tg} {vs : List Nat} {it : It} {ifs : List T} {e : E} : exec P (.ret (.comp tg vs it ifs e)) s = (ev P (.comp tg vs it ifs e) s).then fun x s1 => .ret x.1 x.2 s1 := ex_ret rfl
theorem rt_dct {ks : List D} {es : List E} : exec P (.ret (.dct ks es)) s = (ev P (.dct ks es) s).then fun x s1 => .ret x.1 x.2 s1 := ex_ret rfl
theorem rd_v {i : Nat} {f : Sta → Res (Bool × D)} : rdArg (.v i) f s = (match s.σ[i]? with
    | some (.sh d) => .ok (.val d) s
    | some (.own _) => .ok (.slot i) s
    | _ => .stuck) := rfl
theorem rp_v {i : Nat} {f : Sta → Res (Bool × D)} : rdPlace (.v i) f s = (match s.σ[i]? with
    | some (.sh (.ref n)) => .ok (.cell n) s
    | some (.own _) => .ok (.slot i) s
    | _ => .stuck) := rfl
theorem rp_pr {p : Prim} {es : List E} {f : Sta → Res (Bool × D)} : rdPlace (.pr p es) f s = (f s).bind fun x s1 => match x.2 with
    | .ref n => .ok (.cell n) s1
    | _ => .stuck := rfl
theorem rd_lit {d : D} {f : Sta → Res (Bool × D)} : rdArg (.lit d) f s = (f s).bind fun x s1 => .ok (.val x.2) s1 := rfl
theorem rd_g {d : Nat} {f : Sta → Res (Bool × D)} : rdArg (.g d) f s = (f s).bind fun x s1 => .ok (.val x.2) s1 := rfl
theorem rd_pr {p : Prim} {es : List E} {f : Sta → Res (Bool × D)} : rdArg (.pr p es) f s = (f s).bind fun x s1 => .ok (.val x.2) s1 := rfl
theorem rd_sl {a : E} {l h : Option E} {f : Sta → Res (Bool × D)} : rdArg (.sl a l h) f s = (f s).bind fun x s1 => .ok (.val x.2) s1 := rfl
theorem rd_mp {m : MPrim} {o : E} {es : List E} {f : Sta → Res (Bool × D)} : rdArg (.mp m o es) f s = (f s).bind fun x s1 => .ok (.val x.2) s1 := rfl
theorem rd_mu {m : Mut} {o : E} {es : List E} {f : Sta → Res (Bool × D)} : rdArg (.mu m o es) f s = (f s).bind fun x s1 => .ok (.val x.2) s1 := rfl
theorem rd_tup {es : List E} {f : Sta → Res (Bool × D)} : rdArg (.tup es) f s = (f s).bind fun x s1 => .ok (.val x.2) s1 := rfl
theorem rd_lst {es : List E} {f : Sta → Res (Bool × D)} : rdArg (.lst es) f s = (f s).bind fun x s1 => .ok (.val x.2) s1 := rfl
theorem rd_call {g : Nat} {es : List E} {f : Sta → Res (Bool × D)} : rdArg (.call g es) f s = (f s).bind fun x s1 => .ok (.val x.2) s1 := rfl
theorem rd_callv {g : Nat} {es : List E} {f : Sta → Res (Bool × D)} : rdArg (.callv g es) f s = (f s).bind fun x s1 => .ok (.val x.2) s1 := rfl
theorem rd_notV {e : E} {f : Sta → Res (Bool × D)} : rdArg (.notV e) f s = (f s).bind fun x s1 => .ok (.val x.2) s1 := rfl
theorem rd_bopV {b : Bool} {es : List E} {f : Sta → Res (Bool × D)} : rdArg (.bopV b es) f s = (f s).bind fun x s1 => .ok (.val x.2) s1 := rfl
theorem rd_ite {t : T} {a b : E} {f : Sta → Res (Bool × D)} : rdArg (.ite t a b) f s = (f s).bind fun x s1 => .ok (.val x.2) s1 := rfl
theorem rd_cell {e : E} {f : Sta → Res (Bool × D)} : rdArg (.cell e) f s = (f s).bind fun x s1 => .ok (.val x.2) s1 := rfl
theorem rd_kin {b : Bool} {g : Nat} {e : E} {f : Sta → Res (Bool × D)} : rdArg (.kin b g e) f s = (f s).bind fun x s1 => .ok (.val x.2) s1 := rfl
theorem rd_kix {g : Nat} {e : E} {f : Sta → Res (Bool × D)} : rdArg (.kix g e) f s = (f s).bind fun x s1 => .ok (.val x.2) s1 := rfl
theorem rd_comp {tg : Tg} {vs : List Nat} {it : It} {ifs : List T} {e : E} {f : Sta → Res (Bool × D)} : rdArg (.comp tg vs it ifs e) f s = (f s).bind fun x s1 => .ok (.val x.2) s1 := rfl
theorem rd_dct {ks : List D} {es : List E} {f : Sta → Res (Bool × D)} : rdArg (.dct ks es) f s = (f s).bind fun x s1 => .ok (.val x.2) s1 := rfl
theorem rd_fn {n : Nat} {f : Sta → Res (Bool × D)} : rdArg (.fn n) f s = (f s).bind fun x s1 => .ok (.val x.2) s1 := rfl
theorem notV_rfl {e : E} (h : notV e = true) : notV e = true := h
variable {x : S} {xs : List S} {s1 : Sta}
theorem fin_seq {n : Nat} {r : FRes} (h : exec P x s = .next s1) (h2 : fin n (execs P xs s1) = r) : fin n (execs P (x :: xs) s) = r := by rw [seq_next h, h2]
theorem fin_ret {n : Nat} {o : Bool} {d : D} {r : FRes} (h : exec P x s = .ret o d s1) (h2 : fin n (.ret o d s1) = r) : fin n (execs P (x :: xs) s) = r := by rw [seq_ret h, h2]
theorem seq_go {r : RS} (h : exec P x s = .next s1) (h2 : execs P xs s1 = r) : execs P (x :: xs) s = r := by rw [seq_next h, h2]
theorem seq_end (h : exec P x s = .next s1) : execs P [x] s = .next s1 := by rw [one_ret, h]
theorem fr_go {tg : Tg} {it : It} {b : List S} {s2 : Sta} {ds : List D} (h : evit P it s = .ok ds s1) (h2 : forL (fbody P tg b) ds s1 = .next s2) : exec P (.fr tg it b) s = .next s2 := by rw [exec_fr h, h2]
theorem fbody_v {i : Nat} {b : List S} {d : D} {σ : List Slot} {S : List Cell} {r : RS} (hi : i < σ.length) (h : execs P b ⟨σ.set i (.sh d), S⟩ = r) : fbody P (.v i) b d ⟨σ, S⟩ = r := by
  simp only [fbody, assign, if_pos hi, h]
end
theorem der_non (S : List Cell) : derefS S .non = some .non := rfl
theorem der_bl (S : List Cell) (b : Bool) : derefS S (.bl b) = some (.bl b) := rfl
theorem der_int (S : List Cell) (b : Int) : derefS S (.int b) = some (.int b) := rfl
theorem der_str (S : List Cell) (b : List Nat) : derefS S (.str b) = some (.str b) := rfl
theorem der_tup (S : List Cell) (b : List D) : derefS S (.tup b) = some (.tup b) := rfl
theorem der_lst (S : List Cell) (b : List D) : derefS S (.lst b) = some (.lst b) := rfl
theorem der_dct (S : List Cell) (a b : List D) : derefS S (.dct a b) = some (.dct a b) := rfl
theorem der_ref (S : List Cell) (n : Nat) : derefS S (.ref n) = (S[n]?).bind Cell.view := rfl
theorem der_scr (S : List Cell) (n : List Int) : derefS S (.scr n) = some (.scr n) := rfl
theorem der_fn (S : List Cell) (n : Nat) : derefS S (.fn n) = some (.fn n) := rfl
theorem ix_lst (ds : List D) (i : Int) : ixD (.lst ds) (.int i) = (atI ds i).map fun d => (false, d) := rfl
theorem ix_tup (ds : List D) (i : Int) : ixD (.tup ds) (.int i) = (atI ds i).map fun d => (false, d) := rfl
theorem ix_str (ds : List Nat) (i : Int) : ixD (.str ds) (.int i) = (atI ds i).map fun c => (false, .str [c]) := rfl
theorem ix_dct (a b : List D) (k : D) : ixD (.dct a b) k = if keyOk k then (lookD a b k).map fun d => (false, d) else none := by cases k <;> rfl
theorem lim_ble {n : Nat} (h : Nat.ble n 16777216 = true) : n ≤ LIM := Nat.le_of_ble_eq_true h
theorem lim_blt {n : Nat} (h : Nat.blt n 16777216 = true) : n < LIM := Nat.le_of_ble_eq_true h
theorem cut_fromI {α : Type} (x : List α) (v : Int) (h : 0 ≤ v) : cut x (some v) none = x.drop v.toNat := by
  obtain ⟨k, rfl⟩ := Int.eq_ofNat_of_zero_le h
  exact cut_from x k
theorem cut_toI {α : Type} (x : List α) (v : Int) (h : 0 ≤ v) : cut x none (some v) = x.take v.toNat := by
  obtain ⟨k, rfl⟩ := Int.eq_ofNat_of_zero_le h
  exact cut_to x k
theorem backZ_self (σ : List Slot) : ∀ vs : List Nat, backZ σ σ vs = σ
  | [] => rfl
  | v :: vs => by
    simp only [backZ, backZ_self σ vs]
    apply List.ext_getElem?
    intro i
    by_cases h : v = i
    · subst h
      by_cases hv : v < σ.length
      · rw [List.getElem?_set_self hv, List.getD_eq_getElem?_getD, List.getElem?_eq_getElem hv]; rfl
      · rw [List.getElem?_eq_none (by simpa using hv), List.getElem?_eq_none (by simpa using hv)]
    · rw [List.getElem?_set_ne h]
theorem isSh_wiped : ∀ {σ : List Slot} {vs : List Nat}, wipeZ σ vs = σ → (vs.all fun v => isSh (σ.getD v .no)) = true := fun {σ vs} h => by
  have gen : ∀ (vs : List Nat) (j : Nat), j ∈ vs → (wipeZ σ vs).getD j .no = .no := by
    intro vs
    induction vs with
    | nil => intro j hj; cases hj
    | cons v vs ih =>
      intro j hj
      simp only [wipeZ]
      by_cases e : v = j
      · subst e
        rw [List.getD_eq_getElem?_getD]
        by_cases hv : v < (wipeZ σ vs).length
        · rw [List.getElem?_set_self hv]; rfl
        · rw [List.getElem?_eq_none (by simpa using hv)]; rfl
      · rw [List.getD_eq_getElem?_getD, List.getElem?_set_ne e, ← List.getD_eq_getElem?_getD]
        exact ih j ((List.mem_cons.mp hj).resolve_left (Ne.symm e))
  rw [List.all_eq_true]
  intro j hj
  have := gen vs j hj
  rw [h] at this
  rw [this]
  rfl
/-- a comprehension whose names are free, over what leaves the state as it is -/
theorem ev_compS {X : Type} {P : Prog} {tg : Tg} {vs : List Nat} {it : It} {ifs : List T} {e : E} {σ σ1 : List Slot} {S S1 : List Cell} (xs : List X) (toD : X → D) (g : X → Option D) (hw : wipeZ σ1 vs = σ1) (hit : evit P it ⟨σ, S⟩ = .ok (xs.map toD) ⟨σ1, S1⟩)
    (hl : xs.length ≤ LIM) (ht : ∀ x ∈ xs, cturn P tg vs ifs e (toD x) ⟨σ1, S1⟩ = .ok (g x) ⟨σ1, S1⟩) : ev P (.comp tg vs it ifs e) ⟨σ, S⟩ = .ok (true, .lst (xs.filterMap g)) ⟨σ1, S1⟩ :=
  ev_compT xs toD g hit (isSh_wiped hw) hw ht hl (backZ_self σ1 vs)
theorem ev_compM {X : Type} {P : Prog} {tg : Tg} {vs : List Nat} {it : It} {ifs : List T} {e : E} {σ σ1 : List Slot} {S S1 : List Cell} (xs : List X) (toD : X → D) (g : X → D) (hw : wipeZ σ1 vs = σ1) (hit : evit P it ⟨σ, S⟩ = .ok (xs.map toD) ⟨σ1, S1⟩)
    (hl : xs.length ≤ LIM) (ht : ∀ x ∈ xs, cturn P tg vs ifs e (toD x) ⟨σ1, S1⟩ = .ok (some (g x)) ⟨σ1, S1⟩) : ev P (.comp tg vs it ifs e) ⟨σ, S⟩ = .ok (true, .lst (xs.map g)) ⟨σ1, S1⟩ := by
  have := ev_compS xs toD (fun x => some (g x)) hw hit hl ht
  rwa [filterMap_some] at this
theorem ev_compF {X : Type} {P : Prog} {tg : Tg} {vs : List Nat} {it : It} {ifs : List T} {e : E} {σ σ1 : List Slot} {S S1 : List Cell} (xs : List X) (toD : X → D) (q : X → Bool) (g : X → D) (hw : wipeZ σ1 vs = σ1) (hit : evit P it ⟨σ, S⟩ = .ok (xs.map toD) ⟨σ1, S1⟩)
    (hl : xs.length ≤ LIM) (ht : ∀ x ∈ xs, cturn P tg vs ifs e (toD x) ⟨σ1, S1⟩ = .ok (if q x = true then some (g x) else none) ⟨σ1, S1⟩) : ev P (.comp tg vs it ifs e) ⟨σ, S⟩ = .ok (true, .lst ((xs.filter q).map g)) ⟨σ1, S1⟩ := by
  have := ev_compS xs toD (fun x => if q x = true then some (g x) else none) hw hit hl ht
  rwa [filterMap_if] at this
theorem forL_appJ {X Y J : Type} {body : D → Sta → RS} {toD : X → D} {st : J → List Y → Sta} {f : X → List Y} (N : Nat) : ∀ (xs : List X) (acc : List Y) (j : J), acc.length + (xs.flatMap f).length ≤ N → (∀ j acc x, x ∈ xs → acc.length + (f x).length ≤ N → ∃ j', body (toD x) (st j acc) = .next (st j' (acc ++ f x))) →
    ∃ j', forL body (xs.map toD) (st j acc) = .next (st j' (acc ++ xs.flatMap f))
  | [], acc, j, _, _ => ⟨j, by simp [forL]⟩
  | x :: xs, acc, j, hl, h => by
    simp only [List.flatMap_cons, List.length_append] at hl
    obtain ⟨j1, h1⟩ := h j acc x List.mem_cons_self (by omega)
    obtain ⟨j2, h2⟩ := forL_appJ N xs (acc ++ f x) j1 (by rw [List.length_append]; omega) fun j a y hy => h j a y (List.mem_cons_of_mem _ hy)
    refine ⟨j2, ?_⟩
    simp only [List.map_cons, forL, h1]
    rw [h2]
    simp
theorem forL_accJ {X A J : Type} {body : D → Sta → RS} {toD : X → D} {st : J → A → Sta} {step : A → X → A} (Good : A → List X → Prop) : ∀ (xs : List X) (a : A) (j : J), Good a xs → (∀ j a x r, x ∈ xs → Good a (x :: r) → ∃ j', body (toD x) (st j a) = .next (st j' (step a x)) ∧ Good (step a x) r) →
    ∃ j', forL body (xs.map toD) (st j a) = .next (st j' (xs.foldl step a)) ∧ Good (xs.foldl step a) []
  | [], a, j, hg, _ => ⟨j, by simp [forL], hg⟩
  | x :: xs, a, j, hg, h => by
    obtain ⟨j1, h1, h2⟩ := h j a x xs List.mem_cons_self hg
    obtain ⟨j2, h3, h4⟩ := forL_accJ Good xs (step a x) j1 h2 fun j a y r hy => h j a y r (List.mem_cons_of_mem _ hy)
    exact ⟨j2, by simp only [List.map_cons, forL, h1, List.foldl_cons]; exact h3, h4⟩
/-- a comprehension under a state that changes (draws) -/
theorem compL_inv {X : Type} {turn : D → Sta → Res (Option D)} {toD : X → D} (I : List D → Sta → Prop) : ∀ (xs : List X) (acc : List D) (s : Sta), I acc s → acc.length + xs.length ≤ LIM → (∀ x acc s, x ∈ xs → I acc s → ∃ d s', turn (toD x) s = .ok (some d) s' ∧ I (acc ++ [d]) s') →
    ∃ r s', compL turn (xs.map toD) acc s = .ok r s' ∧ I r s' ∧ r.length = acc.length + xs.length
  | [], acc, s, h, _, _ => ⟨acc, s, rfl, h, rfl⟩
  | x :: xs, acc, s, h, hl, ht => by
    simp only [List.length_cons] at hl
    obtain ⟨d, s1, h1, h2⟩ := ht x acc s List.mem_cons_self h
    obtain ⟨r, s2, h3, h4, h5⟩ := compL_inv I xs (acc ++ [d]) s1 h2 (by simp; omega) fun y a s hy => ht y a s (List.mem_cons_of_mem _ hy)
    refine ⟨r, s2, ?_, h4, by rw [h5]; simp; omega⟩
    simp only [List.map_cons, compL, h1, Res.bind]
    rw [if_pos (by omega)]
    exact h3
end Z

set_option Elab.async false
set_option linter.all false
set_option maxRecDepth 100000
set_option maxHeartbeats 1000000
set_option autoImplicit false
/-! CoM: cores as Lean data. -/
namespace Co
open Z
abbrev Wd := List Nat
inductive Ex where
  | name (x : Wd) | num (n : Int) | len (a : Wd) | item (a : Wd) (e : Ex) | quo (e : Ex) (m : Int) | rem (e : Ex) (m : Int) | scale (c : Int) (e : Ex) | plus (e f : Ex) | minus (e f : Ex)
inductive Ag where
  | arr (x : Wd) | ex (e : Ex)
inductive Cd where
  | less (e f : Ex) | same (e f : Ex) | not (c : Cd) | and (c d : Cd) | or (c d : Cd)
inductive St where
  | set (x : Wd) (e : Ex) | store (a : Wd) (i e : Ex) | push (e : Ex) (a : Wd) | pop (x a : Wd) | pause | call (f : Wd) (as : List Ag) (ts : List Wd) | whl (c : Cd) (b : List St) | ite (c : Cd) (b d : List St) | give (e : Ex)
abbrev kname : Wd := [110, 97, 109, 101]
abbrev knumber : Wd := [110, 117, 109, 98, 101, 114]
abbrev klength : Wd := [108, 101, 110, 103, 116, 104]
abbrev kitem : Wd := [105, 116, 101, 109]
abbrev kquotient : Wd := [113, 117, 111, 116, 105, 101, 110, 116]
abbrev kremainder : Wd := [114, 101, 109, 97, 105, 110, 100, 101, 114]
abbrev kscale : Wd := [115, 99, 97, 108, 101]
abbrev kplus : Wd := [112, 108, 117, 115]
abbrev kminus : Wd := [109, 105, 110, 117, 115]
abbrev karray : Wd := [97, 114, 114, 97, 121]
abbrev kint : Wd := [105, 110, 116]
abbrev kless : Wd := [108, 101, 115, 115]
abbrev ksame : Wd := [115, 97, 109, 101]
abbrev knot : Wd := [110, 111, 116]
abbrev kand : Wd := [97, 110, 100]
abbrev kor : Wd := [111, 114]
abbrev kset : Wd := [115, 101, 116]
abbrev kstore : Wd := [115, 116, 111, 114, 101]
abbrev kpush : Wd := [112, 117, 115, 104]
abbrev kpop : Wd := [112, 111, 112]
abbrev kpause : Wd := [112, 97, 117, 115, 101]
abbrev kcall : Wd := [99, 97, 108, 108]
abbrev kwhile : Wd := [119, 104, 105, 108, 101]
abbrev kif : Wd := [105, 102]
abbrev kgive : Wd := [103, 105, 118, 101]
def Ex.toD : Ex → D
  | .name x => .tup [.str kname, .str x]
  | .num n => .tup [.str knumber, .int n]
  | .len a => .tup [.str klength, .str a]
  | .item a e => .tup [.str kitem, .str a, e.toD]
  | .quo e m => .tup [.str kquotient, e.toD, .int m]
  | .rem e m => .tup [.str kremainder, e.toD, .int m]
  | .scale c e => .tup [.str kscale, .int c, e.toD]
  | .plus e f => .tup [.str kplus, e.toD, f.toD]
  | .minus e f => .tup [.str kminus, e.toD, f.toD]
def Ag.toD : Ag → D
  | .arr x => .tup [.str karray, .str x]
  | .ex e => e.toD
def Cd.toD : Cd → D
  | .less e f => .tup [.str kless, e.toD, f.toD]
  | .same e f => .tup [.str ksame, e.toD, f.toD]
  | .not c => .tup [.str knot, c.toD]
  | .and c d => .tup [.str kand, c.toD, d.toD]
  | .or c d => .tup [.str kor, c.toD, d.toD]
def sD (l : List Wd) : D := .tup (l.map .str)
mutual
def St.toD : St → D
  | .set x e => .tup [.str kset, .tup [.tup [.str x, e.toD]]]
  | .store a i e => .tup [.str kstore, .str a, i.toD, e.toD]
  | .push e a => .tup [.str kpush, e.toD, .str a]
  | .pop x a => .tup [.str kpop, .str x, .str a]
  | .pause => .tup [.str kpause]
  | .call f as ts => .tup [.str kcall, .str f, .tup (as.map Ag.toD), sD ts]
  | .whl c b => .tup [.str kwhile, c.toD, .tup (stsD b)]
  | .ite c b d => .tup [.str kif, c.toD, .tup (stsD b), .tup (stsD d)]
  | .give e => .tup [.str kgive, .tup [e.toD]]
def stsD : List St → List D
  | [] => []
  | s :: r => s.toD :: stsD r
end
theorem stsD_map : ∀ b : List St, stsD b = b.map St.toD
  | [] => rfl
  | s :: r => by simp [stsD, stsD_map r]
/-- a parameter or local -/
structure Itm where
  arr : Bool
  x : Wd
def Itm.toD (i : Itm) : D := .tup [.str (if i.arr then karray else kint), .str i.x]
structure Proc where
  name : Wd
  items : List Itm
  results : List Wd
  places : List Itm
  hints : List D
  body : List St
def Proc.toD (p : Proc) : D := .tup [.str p.name, .tup (p.items.map Itm.toD), sD p.results, .tup (p.places.map Itm.toD), .tup [], .tup p.hints, .tup [], .tup [], .tup (p.body.map St.toD)]
def coreD (c : List Proc) : D := .tup (c.map Proc.toD)
mutual
def flat : List St → List St
  | [] => []
  | s :: r => s :: (sub s ++ flat r)
def sub : St → List St
  | .whl _ b => flat b
  | .ite _ b d => flat b ++ flat d
  | _ => []
end
mutual
def hgt : St → Nat
  | .whl _ b => hgts b + 1
  | .ite _ b d => max (hgts b) (hgts d) + 1
  | _ => 0
def hgts : List St → Nat
  | [] => 0
  | s :: r => max (hgt s) (hgts r)
end
theorem flat_map : ∀ b : List St, flat b = b.flatMap fun s => s :: sub s
  | [] => rfl
  | s :: r => by simp [flat, flat_map r]
theorem hgt_mem : ∀ {b : List St} {s : St}, s ∈ b → hgt s ≤ hgts b
  | x :: r, s, h => by
    simp only [hgts]
    rcases List.mem_cons.mp h with rfl | h
    · exact Nat.le_max_left _ _
    · exact Nat.le_trans (hgt_mem h) (Nat.le_max_right _ _)
end Co

set_option Elab.async false
set_option linter.all false
set_option maxRecDepth 100000
set_option maxHeartbeats 1000000
set_option autoImplicit false
/-! CoG: what is known of a core that is drawn. -/
namespace Co
open Z
def fits : List Itm → List Ag → Prop
  | [], [] => True
  | i :: is, .arr x :: as => i.arr = true ∧ fits is as
  | i :: is, .ex _ :: as => i.arr = false ∧ fits is as
  | _, _ => False
/-- the arrays of a procedure -/
def arrs (p : Proc) : List Wd := ((p.items ++ p.places).filter (·.arr)).map (·.x)
def argsIn (l : List Wd) : List Ag → Prop
  | [] => True
  | .arr x :: as => x ∈ l ∧ argsIn l as
  | .ex _ :: as => argsIn l as
/-- a statement of p in the core c -/
def GSt (c : List Proc) (p : Proc) : St → Prop
  | .set x _ => x.length ≤ 99
  | .store a _ _ => a ∈ arrs p
  | .push _ a => a ∈ arrs p
  | .pop x a => x.length ≤ 99 ∧ a ∈ arrs p
  | .call f as ts => (∃ q ∈ c, q.name = f ∧ fits q.items as) ∧ argsIn (arrs p) as ∧ ts.length ≤ 9
  | .give _ => True
  | _ => True
structure GProc (c : List Proc) (p : Proc) : Prop where
  nm : p.name.length ≤ 99
  hg : hgts p.body ≤ 2
  ln : (flat p.body).length ≤ 999
  st : ∀ s ∈ flat p.body, GSt c p s
  il : p.items.length ≤ 3
  pl : p.places.length ≤ 9
  rl : p.results.length ≤ 9
  ix : ∀ i ∈ p.items, i.x.length ≤ 99
  px : ∀ i ∈ p.places, i.x.length ≤ 99
  al : (arrs p).length ≤ 3
  dj : ∀ i ∈ p.items, i.arr = false → i.x ∉ arrs p
structure GCore (c : List Proc) : Prop where
  len : c.length ≤ 2
  nd : (c.map (·.name)).Nodup
  ps : ∀ p ∈ c, GProc c p
theorem arrs_len {c : List Proc} {p : Proc} (g : GProc c p) {a : Wd} (h : a ∈ arrs p) : a.length ≤ 99 := by
  unfold arrs at h
  obtain ⟨i, hi, rfl⟩ := List.mem_map.mp h
  rcases List.mem_append.mp (List.mem_filter.mp hi).1 with h | h
  · exact g.ix i h
  · exact g.px i h
/-- the procedure of a name -/
def pos : List Proc → Wd → Nat
  | [], _ => 0
  | p :: c, f => if p.name = f then 0 else pos c f + 1
def procOf : List Proc → Wd → Option Proc
  | [], _ => none
  | p :: c, f => if p.name = f then some p else procOf c f
theorem procOf_mem : ∀ {c : List Proc} {q : Proc}, (c.map (·.name)).Nodup → q ∈ c → procOf c q.name = some q
  | p :: c, q, nd, h => by
    simp only [List.map_cons, List.nodup_cons] at nd
    simp only [procOf]
    rcases List.mem_cons.mp h with rfl | h
    · rw [if_pos rfl]
    · rw [if_neg, procOf_mem nd.2 h]
      intro e
      exact nd.1 (List.mem_map.mpr ⟨q, h, e.symm⟩)
theorem filter_name : ∀ {c : List Proc} {q : Proc}, (c.map (·.name)).Nodup → q ∈ c → c.filter (fun p => decide (p.name = q.name)) = [q]
  | p :: c, q, nd, h => by
    simp only [List.map_cons, List.nodup_cons] at nd
    have none : ∀ {x : Wd}, x ∉ c.map (·.name) → c.filter (fun p => decide (p.name = x)) = [] := fun {x} hx => by
      rw [List.filter_eq_nil_iff]
      intro y hy
      simp only [decide_eq_true_eq]
      exact fun e => hx (e ▸ List.mem_map.mpr ⟨y, hy, rfl⟩)
    rcases List.mem_cons.mp h with rfl | h
    · simp [none nd.1]
    · have : ¬ p.name = q.name := fun e => nd.1 (e ▸ List.mem_map.mpr ⟨q, h, rfl⟩)
      simp [this, filter_name nd.2 h]
def Itm.key (i : Itm) : Wd := if i.arr then 35 :: i.x else i.x
end Co

set_option Elab.async false
set_option linter.all false
set_option maxRecDepth 100000
set_option maxHeartbeats 1000000
set_option autoImplicit false
/-! CoT: tables of names by procedure, their closure. -/
namespace Co
open Z
abbrev Tab := List (List Wd)
def tat (c : List Proc) (T : Tab) (f : Wd) : List Wd := T.getD (pos c f) []
def hand1 (pre : Wd) (t : List Wd) (z : Itm × Ag) : List Wd := match z.2 with
  | .arr x => if z.1.arr = true ∧ (pre ++ z.1.x) ∈ t then [pre ++ x] else []
  | .ex _ => []
def handed (pre : Wd) (t : List Wd) (is : List Itm) (as : List Ag) : List Wd := (is.zip as).flatMap (hand1 pre t)
def itemsOf (c : List Proc) (f : Wd) : List Itm := match procOf c f with
  | some q => q.items
  | none => []
def handS (pre : Wd) (c : List Proc) (T : Tab) : St → List Wd
  | .call f as _ => handed pre (tat c T f) (itemsOf c f) as
  | _ => []
def handP (pre : Wd) (c : List Proc) (T : Tab) (p : Proc) : List Wd := (flat p.body).flatMap (handS pre c T)
/-- what belongs to a procedure: by its own statements, or handed on -/
inductive Der (pre : Wd) (b : St → List Wd) (c : List Proc) : Proc → Wd → Prop where
  | base {p : Proc} {s : St} {x : Wd} : s ∈ flat p.body → x ∈ b s → Der pre b c p x
  | step {p q : Proc} {as : List Ag} {ts : List Wd} {i : Itm} {x : Wd} : St.call q.name as ts ∈ flat p.body → q ∈ c → (i, Ag.arr x) ∈ q.items.zip as → i.arr = true → Der pre b c q (pre ++ i.x) → Der pre b c p (pre ++ x)
theorem pos_lt : ∀ {c : List Proc} {q : Proc}, q ∈ c → pos c q.name < c.length
  | p :: c, q, h => by
    simp only [pos, List.length_cons]
    split
    · omega
    · rename_i e
      have := pos_lt ((List.mem_cons.mp h).resolve_left fun z => e (z ▸ rfl))
      omega
theorem itemsOf_mem {c : List Proc} {q : Proc} (nd : (c.map (·.name)).Nodup) (h : q ∈ c) : itemsOf c q.name = q.items := by
  unfold itemsOf
  rw [procOf_mem nd h]
theorem pos_inj : ∀ {c : List Proc} {p q : Proc}, p ∈ c → q ∈ c → pos c p.name = pos c q.name → p.name = q.name
  | r :: c, p, q, hp, hq, h => by
    simp only [pos] at h
    by_cases e1 : r.name = p.name
    · by_cases e2 : r.name = q.name
      · exact e1.symm.trans e2
      · rw [if_pos e1, if_neg e2] at h; omega
    · by_cases e2 : r.name = q.name
      · rw [if_neg e1, if_pos e2] at h; omega
      · rw [if_neg e1, if_neg e2] at h
        exact pos_inj ((List.mem_cons.mp hp).resolve_left fun z => e1 (z ▸ rfl)) ((List.mem_cons.mp hq).resolve_left fun z => e2 (z ▸ rfl)) (by omega)
theorem tat_set {c : List Proc} {T : Tab} {p q : Proc} {l : List Wd} (hT : T.length = c.length) (hp : p ∈ c) (hq : q ∈ c) : tat c (T.set (pos c p.name) l) q.name = if p.name = q.name then l else tat c T q.name := by
  unfold tat
  rw [List.getD_eq_getElem?_getD, List.getD_eq_getElem?_getD]
  by_cases e : p.name = q.name
  · rw [if_pos e, e, List.getElem?_set_self (by rw [hT]; exact pos_lt hq)]; rfl
  · rw [if_neg e, List.getElem?_set_ne fun z => e (pos_inj hp hq z)]
def uni (pre : Wd) (p : Proc) : List Wd := (arrs p).map (pre ++ ·)
def missP (pre : Wd) (c : List Proc) (T : Tab) (p : Proc) : Nat := (uni pre p).countP fun x => decide (x ∉ tat c T p.name)
def miss (pre : Wd) (c : List Proc) (T : Tab) : Nat := (c.map (missP pre c T)).sum
def Le (c : List Proc) (T T' : Tab) : Prop := ∀ p ∈ c, ∀ x ∈ tat c T p.name, x ∈ tat c T' p.name
theorem Le.refl {c : List Proc} (T : Tab) : Le c T T := fun _ _ _ h => h
theorem Le.trans {c : List Proc} {T T' T'' : Tab} (h : Le c T T') (h' : Le c T' T'') : Le c T T'' := fun p hp x hx => h' p hp x (h p hp x hx)
theorem countP_le {α : Type} {l : List α} {p q : α → Bool} (h : ∀ x ∈ l, p x = true → q x = true) : l.countP p ≤ l.countP q := by
  induction l with
  | nil => simp
  | cons a l ih =>
    have ih := ih fun x hx => h x (List.mem_cons_of_mem _ hx)
    have ha := h a List.mem_cons_self
    simp only [List.countP_cons]
    cases e : p a with
    | false => simp; omega
    | true => rw [ha e]; simp; omega
theorem countP_lt {α : Type} {l : List α} {p q : α → Bool} (h : ∀ x ∈ l, p x = true → q x = true) {a : α} (ha : a ∈ l) (h1 : p a = false) (h2 : q a = true) : l.countP p < l.countP q := by
  induction l with
  | nil => cases ha
  | cons b l ih =>
    have hl : ∀ x ∈ l, p x = true → q x = true := fun x hx => h x (List.mem_cons_of_mem _ hx)
    have hb := h b List.mem_cons_self
    have le := countP_le hl
    simp only [List.countP_cons]
    rcases List.mem_cons.mp ha with rfl | ha
    · rw [h1, h2]; simp; omega
    · have := ih hl ha
      cases e : p b with
      | false => simp; omega
      | true => rw [hb e]; simp; omega
theorem sum_le {l : List Proc} {f g : Proc → Nat} (h : ∀ p ∈ l, f p ≤ g p) : (l.map f).sum ≤ (l.map g).sum := by
  induction l with
  | nil => simp
  | cons a l ih =>
    have := ih fun x hx => h x (List.mem_cons_of_mem _ hx)
    have := h a List.mem_cons_self
    simp only [List.map_cons, List.sum_cons]
    omega
theorem sum_lt {l : List Proc} {f g : Proc → Nat} (h : ∀ p ∈ l, f p ≤ g p) {a : Proc} (ha : a ∈ l) (hlt : f a < g a) : (l.map f).sum < (l.map g).sum := by
  induction l with
  | nil => cases ha
  | cons b l ih =>
    have hl : ∀ p ∈ l, f p ≤ g p := fun x hx => h x (List.mem_cons_of_mem _ hx)
    have hb := h b List.mem_cons_self
    have le := sum_le hl
    simp only [List.map_cons, List.sum_cons]
    rcases List.mem_cons.mp ha with rfl | ha
    · omega
    · have := ih hl ha
      omega
variable {pre : Wd} {b : St → List Wd} {c : List Proc} {T T' : Tab}
theorem missP_le {p : Proc} (hp : p ∈ c) (h : Le c T T') : missP pre c T' p ≤ missP pre c T p := by
  refine countP_le fun x _ hx => ?_
  simp only [decide_eq_true_eq] at hx ⊢
  exact fun z => hx (h p hp x z)
theorem miss_le (h : Le c T T') : miss pre c T' ≤ miss pre c T := sum_le fun p hp => missP_le hp h
theorem miss_lt (h : Le c T T') {p : Proc} {x : Wd} (hp : p ∈ c) (hx : x ∈ uni pre p) (h1 : x ∉ tat c T p.name) (h2 : x ∈ tat c T' p.name) : miss pre c T' < miss pre c T := by
  refine sum_lt (fun p hp => missP_le hp h) hp ?_
  refine countP_lt (a := x) (fun y _ hy => ?_) hx (by simpa using h2) (by simpa using h1)
  simp only [decide_eq_true_eq] at hy ⊢
  exact fun z => hy (h p hp y z)
theorem miss_six (G : GCore c) : miss pre c T ≤ 6 := by
  have h1 : (c.map (missP pre c T)).sum ≤ (c.map fun _ => 3).sum := sum_le fun p hp => by
    have := List.countP_le_length (p := fun x => decide (x ∉ tat c T p.name)) (l := uni pre p)
    have h3 := (G.ps p hp).al
    unfold missP
    unfold uni at this ⊢
    rw [List.length_map] at this
    omega
  have h2 : (c.map fun _ => 3).sum = 3 * c.length := by
    clear h1 G
    induction c with
    | nil => rfl
    | cons a l ih => simp only [List.map_cons, List.sum_cons, List.length_cons, ih]; omega
  have := G.len
  unfold miss
  omega
/-- a table that says nothing wrong -/
structure Inv (pre : Wd) (b : St → List Wd) (c : List Proc) (T : Tab) : Prop where
  len : T.length = c.length
  snd : ∀ p ∈ c, ∀ x ∈ tat c T p.name, Der pre b c p x
  bas : ∀ p ∈ c, ∀ s ∈ flat p.body, ∀ x ∈ b s, x ∈ tat c T p.name
theorem zip_items {G : GCore c} {p q : Proc} {as : List Ag} {ts : List Wd} (hp : p ∈ c) (hs : St.call q.name as ts ∈ flat p.body) (hq : q ∈ c) : fits q.items as ∧ argsIn (arrs p) as := by
  have h := (G.ps p hp).st _ hs
  obtain ⟨⟨q', h1, h2, h3⟩, h4, h5⟩ := h
  have e1 := procOf_mem G.nd hq
  have e2 := procOf_mem G.nd h1
  rw [h2, e1] at e2
  cases e2
  exact ⟨h3, h4⟩
theorem argsIn_mem : ∀ {l : List Wd} {as : List Ag} {x : Wd}, argsIn l as → Ag.arr x ∈ as → x ∈ l
  | l, .arr y :: as, x, h, hx => by
    rcases List.mem_cons.mp hx with e | hx
    · cases e; exact h.1
    · exact argsIn_mem h.2 hx
  | l, .ex _ :: as, x, h, hx => argsIn_mem (as := as) h ((List.mem_cons.mp hx).resolve_left fun e => by cases e)
theorem handP_der (G : GCore c) (I : Inv pre b c T) {p : Proc} (hp : p ∈ c) {x : Wd} (h : x ∈ handP pre c T p) : Der pre b c p x ∧ x ∈ uni pre p := by
  obtain ⟨s, hs, hx⟩ := List.mem_flatMap.mp h
  cases s with
  | call f as ts =>
    have g := (G.ps p hp).st _ hs
    obtain ⟨⟨q, hq, rfl, hf⟩, ha, _⟩ := g
    simp only [handS, itemsOf_mem G.nd hq, handed] at hx
    obtain ⟨⟨i, a⟩, hz, hx⟩ := List.mem_flatMap.mp hx
    cases a with
    | ex e => simp [hand1] at hx
    | arr y =>
      simp only [hand1] at hx
      split at hx
      · rename_i hh
        simp only [List.mem_singleton] at hx
        subst hx
        exact ⟨.step hs hq hz hh.1 (I.snd q hq _ hh.2), List.mem_map.mpr ⟨y, argsIn_mem ha (List.of_mem_zip hz).2, rfl⟩⟩
      · cases hx
  | _ => simp [handS] at hx
/-- one more -/
def addT (c : List Proc) (T : Tab) (p : Proc) (xs : List Wd) : Tab := T.set (pos c p.name) (tat c T p.name ++ xs)
theorem addT_le (hT : T.length = c.length) {p : Proc} (hp : p ∈ c) (xs : List Wd) : Le c T (addT c T p xs) := fun q hq x hx => by
  unfold addT
  rw [tat_set hT hp hq]
  split
  · rename_i e
    rw [e]
    exact List.mem_append_left _ hx
  · exact hx
theorem name_eq (G : GCore c) {p q : Proc} (hp : p ∈ c) (hq : q ∈ c) (e : p.name = q.name) : p = q := by
  have h1 := procOf_mem G.nd hp
  have h2 := procOf_mem G.nd hq
  rw [e, h2] at h1
  exact (Option.some.inj h1).symm
theorem addT_inv (G : GCore c) (I : Inv pre b c T) {p : Proc} (hp : p ∈ c) {xs : List Wd} (h : ∀ x ∈ xs, Der pre b c p x) : Inv pre b c (addT c T p xs) := by
  refine ⟨by unfold addT; rw [List.length_set]; exact I.len, fun q hq x hx => ?_, fun q hq s hs x hx => addT_le I.len hp xs q hq x (I.bas q hq s hs x hx)⟩
  unfold addT at hx
  rw [tat_set I.len hp hq] at hx
  split at hx
  · rename_i e
    have := name_eq G hp hq e
    subst this
    rcases List.mem_append.mp hx with hx | hx
    · exact I.snd p hq x hx
    · exact h x hx
  · exact I.snd q hq x hx
theorem addT_self (hT : T.length = c.length) {p : Proc} (hp : p ∈ c) (xs : List Wd) : tat c (addT c T p xs) p.name = tat c T p.name ++ xs := by
  unfold addT
  rw [tat_set hT hp hp, if_pos rfl]
def Closed (pre : Wd) (c : List Proc) (T : Tab) : Prop := ∀ p ∈ c, ∀ x ∈ handP pre c T p, x ∈ tat c T p.name
/-- a closed table tells all -/
theorem closed_all (G : GCore c) (I : Inv pre b c T) (C : Closed pre c T) : ∀ {p : Proc} {x : Wd}, Der pre b c p x → p ∈ c → x ∈ tat c T p.name := fun {p x} d => by
  induction d with
  | base hs hx => exact fun hp => I.bas _ hp _ hs _ hx
  | @step p q as ts i x hs hq hz hi d ih =>
    intro hp
    refine C p hp _ (List.mem_flatMap.mpr ⟨_, hs, ?_⟩)
    simp only [handS, itemsOf_mem G.nd hq, handed]
    refine List.mem_flatMap.mpr ⟨_, hz, ?_⟩
    simp only [hand1]
    rw [if_pos ⟨hi, ih hq⟩]
    exact List.mem_singleton.mpr rfl
theorem closed_iff (G : GCore c) (I : Inv pre b c T) (C : Closed pre c T) {p : Proc} (hp : p ∈ c) (x : Wd) : x ∈ tat c T p.name ↔ Der pre b c p x := ⟨I.snd p hp x, fun d => closed_all G I C d hp⟩
end Co
namespace Co
section
variable {pre : Wd} {b : St → List Wd} {c : List Proc} {T T0 : Tab}
/-- the lists stay short -/
def bnd (pre : Wd) (c : List Proc) (T : Tab) : Prop := ∀ p ∈ c, (tat c T p.name).length + miss pre c T ≤ 9000
theorem addT_lt (G : GCore c) (hT : T.length = c.length) {p : Proc} (hp : p ∈ c) {x : Wd} (hx : x ∈ uni pre p) (hn : x ∉ tat c T p.name) : miss pre c (addT c T p [x]) < miss pre c T :=
  miss_lt (addT_le hT hp [x]) hp hx hn (by rw [addT_self hT hp]; simp)
theorem addT_bnd (G : GCore c) (hT : T.length = c.length) {p : Proc} (hp : p ∈ c) {x : Wd} (hx : x ∈ uni pre p) (hn : x ∉ tat c T p.name) (B : bnd pre c T) : bnd pre c (addT c T p [x]) := fun q hq => by
  have h1 := addT_lt G hT hp hx hn
  have h2 := B q hq
  unfold addT
  rw [tat_set hT hp hq]
  unfold addT at h1
  split
  · rename_i e
    have := B p hp
    rw [List.length_append]
    simp only [List.length_singleton]
    omega
  · omega
/-- where a pass that began at T0 stands -/
structure Pas (pre : Wd) (b : St → List Wd) (c : List Proc) (T0 T : Tab) (g : Bool) : Prop where
  inv : Inv pre b c T
  le : Le c T0 T
  no : g = false → T = T0
  yes : g = true → miss pre c T < miss pre c T0
  bd : bnd pre c T
theorem Pas.add (G : GCore c) {g : Bool} (h : Pas pre b c T0 T g) {p : Proc} (hp : p ∈ c) {x : Wd} (hd : Der pre b c p x) (hx : x ∈ uni pre p) (hn : x ∉ tat c T p.name) : Pas pre b c T0 (addT c T p [x]) true := by
  refine ⟨addT_inv G h.inv hp (by simpa using hd), h.le.trans (addT_le h.inv.len hp [x]), (fun e => by cases e), fun _ => ?_, addT_bnd G h.inv.len hp hx hn h.bd⟩
  have h1 := addT_lt G h.inv.len hp hx hn
  have h2 := miss_le (pre := pre) h.le
  omega
end
end Co

set_option Elab.async false
set_option linter.all false
set_option maxRecDepth 100000
set_option maxHeartbeats 1000000
set_option autoImplicit false
/-! CoH: tables in the heap. -/
namespace Co
open Z
def tabC (T : Tab) : List Cell := T.map fun l => .L (l.map .str)
def refsD (n0 m : Nat) : List D := (List.range' n0 m).map D.ref
def namesD (c : List Proc) : List D := c.map fun p => .str p.name
theorem refsD_len (n0 m : Nat) : (refsD n0 m).length = m := by simp [refsD]
theorem lookD_refs : ∀ {c : List Proc} {q : Proc} (n0 : Nat), q ∈ c → lookD (namesD c) (refsD n0 c.length) (.str q.name) = some (.ref (n0 + pos c q.name))
  | p :: c, q, n0, h => by
    simp only [namesD, List.map_cons, refsD, List.length_cons, List.range'_succ, lookD, pos]
    by_cases e : p.name = q.name
    · have e3 : (D.str p.name).eqv (D.str q.name) = true := by simp [D.eqv, e]
      simp only [e3, if_true, if_pos e, Nat.add_zero]
    · have e3 : (D.str p.name).eqv (D.str q.name) = false := by simpa [D.eqv] using e
      have := lookD_refs (n0 + 1) ((List.mem_cons.mp h).resolve_left fun z => e (z ▸ rfl))
      simp only [namesD, refsD] at this
      simp only [e3, Bool.false_eq_true, if_false, if_neg e]
      rw [this]
      congr 2
      omega
variable {c : List Proc} {T : Tab} {S0 : List Cell}
theorem cell_at {q : Proc} (hT : T.length = c.length) (hq : q ∈ c) : (S0 ++ tabC T)[S0.length + pos c q.name]? = some (.L ((tat c T q.name).map .str)) := by
  have hl : pos c q.name < T.length := by rw [hT]; exact pos_lt hq
  rw [List.getElem?_append_right (by omega)]
  have e : S0.length + pos c q.name - S0.length = pos c q.name := by omega
  rw [e]
  unfold tabC tat
  rw [List.getElem?_map, List.getElem?_eq_getElem hl, List.getD_eq_getElem?_getD, List.getElem?_eq_getElem hl]
  rfl
theorem cell_set {q : Proc} (l : List Wd) : (S0 ++ tabC T).set (S0.length + pos c q.name) (.L (l.map .str)) = S0 ++ tabC (T.set (pos c q.name) l) := by
  rw [List.set_append_right _ _ (by omega)]
  have e : S0.length + pos c q.name - S0.length = pos c q.name := by omega
  rw [e]
  unfold tabC
  rw [List.map_set]
theorem plains_str : ∀ l : List Wd, plains (l.map D.str) = true
  | [] => rfl
  | x :: l => by simp [plains, D.plain, plains_str l]
theorem deeps_str : ∀ l : List Wd, deeps (l.map D.str) = 0
  | [] => rfl
  | x :: l => by simp [deeps, D.deep, deeps_str l]
theorem memD_str (x : Wd) : ∀ l : List Wd, memD (.str x) (l.map D.str) = decide (x ∈ l)
  | [] => by simp [memD]
  | y :: l => by
    have ih := memD_str x l
    unfold memD at ih ⊢
    simp only [List.map_cons, List.any_cons, ih, D.eqv, List.mem_cons]
    by_cases h : y = x
    · subst h; simp
    · have e : (y == x) = false := by simpa using h
      rw [e]
      simp [show ¬ x = y from fun z => h z.symm]
theorem in_strs (x : Wd) (l : List Wd) : inD (.str x) (.lst (l.map D.str)) = some (decide (x ∈ l)) := by
  simp [inD, fit_str, plains_str, deeps_str, memD_str]
theorem in_strsT (x : Wd) (l : List Wd) : inD (.str x) (.tup (l.map D.str)) = some (decide (x ∈ l)) := by
  simp [inD, fit_str, plains_str, deeps_str, memD_str]
theorem under_strs (n : Nat) : ∀ l : List Wd, unders n (l.map D.str) = true
  | [] => rfl
  | x :: l => by simp [unders, D.under, under_strs n l]
theorem tabC_len : (tabC T).length = T.length := by simp [tabC]
theorem zipD_map {α β : Type} (f : α → D) (g : β → D) : ∀ (xs : List α) (ys : List β), zipD (xs.map f) (ys.map g) = (xs.zip ys).map fun z => .tup [f z.1, g z.2]
  | [], _ => rfl
  | x :: xs, [] => rfl
  | x :: xs, y :: ys => by simp [zipD, zipD_map f g xs ys]
theorem get_append_none (n : Nat) (S : List Cell) (x : Cell) : (S ++ [x])[S.length]? = some x := by simp
end Co
namespace Z
theorem dcompL_names {turn : D → Sta → Res (Option (D × D))} {σ : List Slot} {S0 : List Cell} (base : Co.Proc → List Co.Wd) : ∀ (c done : List Co.Proc), ((done ++ c).map (·.name)).Nodup → (done ++ c).length < LIM → (∀ p ∈ c, ∀ S, turn p.toD ⟨σ, S⟩ = .ok (some (.str p.name, .ref S.length)) ⟨σ, S ++ [.L ((base p).map .str)]⟩) →
    dcompL turn (c.map Co.Proc.toD) (Co.namesD done) (Co.refsD S0.length done.length) ⟨σ, S0 ++ Co.tabC (done.map base)⟩ = .ok (Co.namesD (done ++ c), Co.refsD S0.length (done ++ c).length) ⟨σ, S0 ++ Co.tabC ((done ++ c).map base)⟩
  | [], done, _, _, _ => by simp [dcompL]
  | p :: c, done, nd, hl, ht => by
    have look : ∀ (d : List Co.Proc) (n : Nat), p.name ∉ d.map (·.name) → lookD (Co.namesD d) (Co.refsD n d.length) (.str p.name) = none := by
      intro d
      induction d with
      | nil => intro n _; rfl
      | cons q d ih =>
        intro n h
        simp only [List.map_cons, List.mem_cons, not_or] at h
        have e2 : (q.name == p.name) = false := by
          have h1 := h.1
          simp only [beq_eq_false_iff_ne]
          exact fun z => h1 z.symm
        simp only [Co.namesD, List.map_cons, Co.refsD, List.length_cons, List.range'_succ, lookD, D.eqv, e2]
        exact ih (n + 1) h.2
    have nd' : p.name ∉ done.map (·.name) := by
      rw [List.map_append, List.map_cons] at nd
      have := (List.nodup_append.mp nd).2.2
      intro z
      exact this _ z _ List.mem_cons_self rfl
    have e1 : done ++ p :: c = (done ++ [p]) ++ c := by simp
    have hlen : (S0 ++ Co.tabC (done.map base)).length = S0.length + done.length := by simp [Co.tabC]
    simp only [List.map_cons, dcompL, ht p List.mem_cons_self, Res.bind]
    rw [if_pos ⟨rfl, by have : (Co.namesD done).length = done.length := by simp [Co.namesD]
                        rw [this]; simp at hl; omega⟩]
    unfold putD
    rw [look done S0.length nd']
    simp only [Option.isSome_none, Bool.false_eq_true, if_false]
    have e2 : Co.namesD done ++ [D.str p.name] = Co.namesD (done ++ [p]) := by simp [Co.namesD]
    have e3 : Co.refsD S0.length done.length ++ [D.ref (S0 ++ Co.tabC (done.map base)).length] = Co.refsD S0.length (done ++ [p]).length := by
      rw [hlen]
      simp [Co.refsD, List.range'_concat]
    have e4 : S0 ++ Co.tabC (done.map base) ++ [Cell.L ((base p).map .str)] = S0 ++ Co.tabC ((done ++ [p]).map base) := by
      simp [Co.tabC]
    rw [e2, e3, e4, e1]
    exact dcompL_names base c (done ++ [p]) (by rw [← e1]; exact nd) (by rw [← e1]; exact hl) fun q hq => ht q (List.mem_cons_of_mem _ hq)
/-- a turn of a dict comprehension -/
noncomputable abbrev dturn (P : Prog) (tg : Tg) (vs : List Nat) (ifs : List T) (ke e : E) : D → Sta → Res (Option (D × D)) := fun d s2 => noX (match assign tg d s2.σ with
            | some σ' => (evts P ifs { s2 with σ := σ' }).bind fun b s3 => if b then (ev P ke s3).bind fun y s4 => (ev P e s4).bind fun x s5 => .ok (some (y.2, x.2)) { s5 with σ := wipeZ s5.σ vs } else .ok none { s3 with σ := wipeZ s3.σ vs }
            | none => .stuck)
theorem ev_dcomp {P : Prog} {tg : Tg} {vs : List Nat} {it : It} {ifs : List T} {ke e : E} {σ : List Slot} {S S5 : List Cell} {ds : List D} {r : List D × List D} (hw : wipeZ σ vs = σ) (h : evit P it ⟨σ, S⟩ = .ok ds ⟨σ, S⟩) (h2 : dcompL (dturn P tg vs ifs ke e) ds [] [] ⟨σ, S⟩ = .ok r ⟨σ, S5⟩) :
    ev P (.dcomp tg vs it ifs ke e) ⟨σ, S⟩ = .ok (true, .dct r.1 r.2) ⟨σ, S5⟩ := by
  have e0 : ev P (.dcomp tg vs it ifs ke e) ⟨σ, S⟩ = (evit P it ⟨σ, S⟩).bind fun ds s1 => if (vs.all fun v => isSh (s1.σ.getD v .no)) = true then (dcompL (dturn P tg vs ifs ke e) ds [] [] { s1 with σ := wipeZ s1.σ vs }).bind fun r s5 => .ok (true, .dct r.1 r.2) { s5 with σ := backZ s1.σ s5.σ vs } else .stuck := by
    first | (simp only [ev]; done) | (simp only [ev]; rfl)
  rw [e0, h]
  show (if (vs.all fun v => isSh (σ.getD v .no)) = true then (dcompL (dturn P tg vs ifs ke e) ds [] [] ⟨wipeZ σ vs, S⟩).bind fun r s5 => Res.ok (true, D.dct r.1 r.2) { s5 with σ := backZ σ s5.σ vs } else .stuck) = _
  rw [if_pos (isSh_wiped hw), hw, h2]
  show Res.ok (true, D.dct r.1 r.2) ⟨backZ σ σ vs, S5⟩ = _
  rw [backZ_self]
end Z

set_option Elab.async false
set_option linter.all false
set_option maxRecDepth 100000
set_option maxHeartbeats 1000000
set_option autoImplicit false
/-! CoP: a procedure, an item looked at. -/
namespace Co
open Z
def okS (S : List Cell) : Bool := S.all (Cell.under S.length)
theorem gc_back {S : List Cell} (h : okS S = true) (X : List Cell) {ds : List D} (hu : unders S.length ds = true) : gc S.length ds (S ++ X) = S := by
  unfold gc
  split
  · rename_i e
    have : X = [] := by
      rw [List.length_append] at e
      exact List.length_eq_zero_iff.mp (by omega)
    subst this
    simp
  · have ht : (S ++ X).take S.length = S := by simp
    rw [ht, hu]
    rw [show (true && S.all (Cell.under S.length)) = true by rw [Bool.true_and]; exact h]
    simp
theorem under_sD (n : Nat) (l : List Wd) : unders n [sD l] = true := by
  simp [unders, sD, D.under, under_strs]
section
variable (p : Proc) (i : Itm)
theorem pix0 : ixD p.toD (.int 0) = some (false, .str p.name) := by simp [Proc.toD, ixD, atI_zero]
theorem pix1 : ixD p.toD (.int 1) = some (false, .tup (p.items.map Itm.toD)) := by simp [Proc.toD, ixD, atI_1]
theorem pix2 : ixD p.toD (.int 2) = some (false, sD p.results) := by simp [Proc.toD, ixD, atI_2]
theorem pix3 : ixD p.toD (.int 3) = some (false, .tup (p.places.map Itm.toD)) := by simp [Proc.toD, ixD, atI_3]
theorem pix5 : ixD p.toD (.int 5) = some (false, .tup p.hints) := by simp [Proc.toD, ixD, atI_5]
theorem pix8 : ixD p.toD (.int 8) = some (false, .tup (p.body.map St.toD)) := by simp [Proc.toD, ixD, atI_8]
theorem pder (S : List Cell) : derefS S p.toD = some p.toD := rfl
theorem iix0 : ixD i.toD (.int 0) = some (false, .str (if i.arr then karray else kint)) := by simp [Itm.toD, ixD, atI_zero]
theorem iix1 : ixD i.toD (.int 1) = some (false, .str i.x) := by simp [Itm.toD, ixD, atI_1]
theorem ider (S : List Cell) : derefS S i.toD = some i.toD := rfl
theorem sder (S : List Cell) (s : St) : derefS S s.toD = some s.toD := by cases s <;> rfl
end
end Co

set_option Elab.async false
set_option linter.all false
set_option maxRecDepth 100000
set_option maxHeartbeats 1000000
set_option autoImplicit false
/-! CoL: tables as dicts of lists; arguments; ranges. -/
namespace Co
open Z
variable {c : List Proc} {T : Tab}
def listsD (T : Tab) : List D := T.map fun l => .lst (l.map .str)
theorem lookD_lists : ∀ {c : List Proc} {T : Tab} {q : Proc}, T.length = c.length → q ∈ c → lookD (namesD c) (listsD T) (.str q.name) = some (.lst ((tat c T q.name).map .str))
  | p :: c, l :: T, q, hT, h => by
    simp only [namesD, List.map_cons, listsD, lookD]
    by_cases e : p.name = q.name
    · have e3 : (D.str p.name).eqv (D.str q.name) = true := by simp [D.eqv, e]
      simp only [e3, if_true]
      unfold tat pos
      rw [if_pos e]
      rfl
    · have e3 : (D.str p.name).eqv (D.str q.name) = false := by simpa [D.eqv] using e
      have := lookD_lists (c := c) (T := T) (by simpa using hT) ((List.mem_cons.mp h).resolve_left fun z => e (z ▸ rfl))
      simp only [namesD, listsD] at this
      simp only [e3, Bool.false_eq_true, if_false]
      rw [this]
      unfold tat
      simp only [pos]
      rw [if_neg e]
      rfl
theorem repD_lists : ∀ {c : List Proc} {T : Tab} {q : Proc} (l : List Wd), (c.map (·.name)).Nodup → T.length = c.length → q ∈ c → repD (namesD c) (listsD T) (.str q.name) (.lst (l.map .str)) = listsD (T.set (pos c q.name) l)
  | p :: c, x :: T, q, l, nd, hT, h => by
    simp only [List.map_cons, List.nodup_cons] at nd
    simp only [namesD, List.map_cons, listsD, repD]
    by_cases e : p.name = q.name
    · have e3 : (D.str p.name).eqv (D.str q.name) = true := by simp [D.eqv, e]
      simp only [e3, if_true, pos]
      rw [if_pos e]
      have none : ∀ (c : List Proc) (T : Tab), T.length = c.length → q.name ∉ c.map (·.name) → repD (namesD c) (listsD T) (.str q.name) (.lst (l.map .str)) = listsD T := by
        intro c
        induction c with
        | nil => intro T hT _; cases T with
          | nil => rfl
          | cons _ _ => cases hT
        | cons r c ih =>
          intro T hT hn
          cases T with
          | nil => cases hT
          | cons y T =>
            simp only [List.map_cons, List.mem_cons, not_or] at hn
            have e4 : (D.str r.name).eqv (D.str q.name) = false := by
              simp only [D.eqv, beq_eq_false_iff_ne]
              exact fun z => hn.1 z.symm
            simp only [namesD, List.map_cons, listsD, repD, e4, Bool.false_eq_true, if_false]
            have := ih T (by simpa using hT) hn.2
            simp only [namesD, listsD] at this
            rw [this]
      have := none c T (by simpa using hT) (e ▸ nd.1)
      simp only [namesD, listsD] at this
      rw [this]
      rfl
    · have e3 : (D.str p.name).eqv (D.str q.name) = false := by simpa [D.eqv] using e
      have := repD_lists (c := c) (T := T) l nd.2 (by simpa using hT) ((List.mem_cons.mp h).resolve_left fun z => e (z ▸ rfl))
      simp only [namesD, listsD] at this
      simp only [e3, Bool.false_eq_true, if_false, pos]
      rw [this, if_neg e]
      rfl
theorem put_lists {q : Proc} (l : List Wd) (nd : (c.map (·.name)).Nodup) (hT : T.length = c.length) (hq : q ∈ c) (hl : c.length < LIM) : putC (.M (namesD c) (listsD T)) (.str q.name) (.lst (l.map .str)) = some (.M (namesD c) (listsD (T.set (pos c q.name) l))) := by
  have h1 : (namesD c).length = c.length := by simp [namesD]
  simp only [putC, keyOk, h1]
  rw [if_pos ⟨trivial, hl⟩]
  unfold putD
  rw [lookD_lists hT hq]
  simp only [Option.isSome_some, if_true]
  rw [repD_lists l nd hT hq]
theorem put_new (done : List Proc) (T : Tab) {q : Proc} (l : List Wd) (hT : T.length = done.length) (hn : q.name ∉ done.map (·.name)) (hl : done.length < LIM) : putC (.M (namesD done) (listsD T)) (.str q.name) (.lst (l.map .str)) = some (.M (namesD (done ++ [q])) (listsD (T ++ [l]))) := by
  have h1 : (namesD done).length = done.length := by simp [namesD]
  simp only [putC, keyOk, h1]
  rw [if_pos ⟨trivial, hl⟩]
  have look : ∀ (d : List Proc) (T : Tab), T.length = d.length → q.name ∉ d.map (·.name) → lookD (namesD d) (listsD T) (.str q.name) = none := by
    intro d
    induction d with
    | nil => intro T _ _; cases T <;> rfl
    | cons r d ih =>
      intro T hT hn
      cases T with
      | nil => cases hT
      | cons y T =>
        simp only [List.map_cons, List.mem_cons, not_or] at hn
        have e4 : (D.str r.name).eqv (D.str q.name) = false := by
          simp only [D.eqv, beq_eq_false_iff_ne]
          exact fun z => hn.1 z.symm
        simp only [namesD, List.map_cons, listsD, lookD, e4]
        exact ih T (by simpa using hT) hn.2
  unfold putD
  rw [look done T hT hn]
  simp [namesD, listsD]
/-! ### arguments -/
def Ex.kind : Ex → Wd
  | .name _ => kname
  | .num _ => knumber
  | .len _ => klength
  | .item _ _ => kitem
  | .quo _ _ => kquotient
  | .rem _ _ => kremainder
  | .scale _ _ => kscale
  | .plus _ _ => kplus
  | .minus _ _ => kminus
theorem eix0 (e : Ex) : ixD e.toD (.int 0) = some (false, .str e.kind) := by cases e <;> simp [Ex.toD, ixD, atI_zero, Ex.kind]
theorem kind_ne (e : Ex) : (e.kind == karray) = false := by cases e <;> rfl
theorem eder (S : List Cell) (e : Ex) : derefS S e.toD = some e.toD := by cases e <;> rfl
theorem aix0 (x : Wd) : ixD (Ag.arr x).toD (.int 0) = some (false, .str karray) := by simp [Ag.toD, ixD, atI_zero]
theorem aix0e (e : Ex) : ixD (Ag.ex e).toD (.int 0) = some (false, .str e.kind) := eix0 e
theorem aix1 (x : Wd) : ixD (Ag.arr x).toD (.int 1) = some (false, .str x) := by simp [Ag.toD, ixD, atI_1]
theorem ader (S : List Cell) (a : Ag) : derefS S a.toD = some a.toD := by
  cases a with
  | arr x => rfl
  | ex e => exact eder S e
theorem cder (S : List Cell) (c : Cd) : derefS S c.toD = some c.toD := by cases c <;> rfl
/-! ### ranges -/
theorem range_filterMap {α β : Type} (l : List α) (G : α → Option β) : (List.range l.length).filterMap (fun k => (l[k]?).bind G) = l.filterMap G := by
  have gen : ∀ (l pre : List α), (List.range' pre.length l.length).filterMap (fun k => ((pre ++ l)[k]?).bind G) = l.filterMap G := by
    intro l
    induction l with
    | nil => intro pre; simp
    | cons a l ih =>
      intro pre
      have := ih (pre ++ [a])
      simp only [List.length_append, List.length_singleton, List.append_assoc, List.singleton_append] at this
      simp only [List.length_cons, List.range'_succ, List.filterMap_cons]
      rw [List.getElem?_append_right (Nat.le_refl _), Nat.sub_self]
      simp only [List.getElem?_cons_zero, Option.bind_some, this]
  have := gen l []
  simpa [List.range_eq_range'] using this
theorem range_map {α β : Type} (l : List α) (G : α → β) (d : β) : (List.range l.length).map (fun k => ((l[k]?).map G).getD d) = l.map G := by
  have := range_filterMap l (fun a => some (G a))
  rw [filterMap_some] at this
  rw [← this]
  have gen : ∀ ks : List Nat, (∀ k ∈ ks, k < l.length) → ks.map (fun k => ((l[k]?).map G).getD d) = ks.filterMap (fun k => (l[k]?).bind fun a => some (G a)) := by
    intro ks
    induction ks with
    | nil => intro _; rfl
    | cons k ks ih =>
      intro h
      have hk := h k List.mem_cons_self
      simp only [List.map_cons, List.filterMap_cons, List.getElem?_eq_getElem hk, Option.bind_some, Option.map_some, Option.getD_some]
      rw [ih fun x hx => h x (List.mem_cons_of_mem _ hx)]
  exact gen _ fun k hk => List.mem_range.mp hk
theorem fits_len : ∀ {is : List Itm} {as : List Ag}, fits is as → is.length = as.length
  | [], [], _ => rfl
  | i :: is, .arr x :: as, h => by simp [fits_len h.2]
  | i :: is, .ex e :: as, h => by simp [fits_len h.2]
theorem fits_zip : ∀ {is : List Itm} {as : List Ag} {z : Itm × Ag}, fits is as → z ∈ is.zip as → (∃ x, z.2 = .arr x ∧ z.1.arr = true) ∨ (∃ e, z.2 = .ex e ∧ z.1.arr = false)
  | i :: is, .arr x :: as, z, h, hz => by
    rcases List.mem_cons.mp hz with rfl | hz
    · exact .inl ⟨x, rfl, h.1⟩
    · exact fits_zip h.2 hz
  | i :: is, .ex e :: as, z, h, hz => by
    rcases List.mem_cons.mp hz with rfl | hz
    · exact .inr ⟨e, rfl, h.1⟩
    · exact fits_zip h.2 hz
  | [], as, z, h, hz => by simp at hz
  | _ :: _, [], z, h, hz => by simp at hz
end Co
namespace Co
variable {pre : Wd} {b : St → List Wd} {c : List Proc} {T T0 T' : Tab}
/-! ### turns of the law's own -/
def Full (pre : Wd) (b : St → List Wd) (c : List Proc) (T : Tab) : Prop := ∀ p ∈ c, ∀ x, Der pre b c p x → x ∈ tat c T p.name
theorem full_iff (I : Inv pre b c T) (F : Full pre b c T) {p : Proc} (hp : p ∈ c) (x : Wd) : x ∈ tat c T p.name ↔ Der pre b c p x := ⟨I.snd p hp x, F p hp x⟩
theorem hand1_mono {t t' : List Wd} (h : ∀ x ∈ t, x ∈ t') (z : Itm × Ag) {x : Wd} (hx : x ∈ hand1 pre t z) : x ∈ hand1 pre t' z := by
  obtain ⟨i, a⟩ := z
  cases a with
  | ex e => simp [hand1] at hx
  | arr y =>
    simp only [hand1] at hx ⊢
    split at hx
    · rename_i hh
      rw [if_pos ⟨hh.1, h _ hh.2⟩]
      exact hx
    · cases hx
theorem handS_mono (G : GCore c) (hle : Le c T T') {p : Proc} (hp : p ∈ c) {s : St} (hs : s ∈ flat p.body) {x : Wd} (hx : x ∈ handS pre c T s) : x ∈ handS pre c T' s := by
  cases s with
  | call f as ts =>
    obtain ⟨⟨q, hq, rfl, hf⟩, _, _⟩ := (G.ps p hp).st _ hs
    simp only [handS, handed] at hx ⊢
    obtain ⟨z, hz, hx⟩ := List.mem_flatMap.mp hx
    exact List.mem_flatMap.mpr ⟨z, hz, hand1_mono (hle q hq) z hx⟩
  | _ => simp [handS] at hx
/-- one turn more: all is there, or less is missing -/
theorem turn_step (G : GCore c) (I : Inv pre b c T) (hle : Le c T T') (hall : ∀ p ∈ c, ∀ x ∈ handP pre c T p, x ∈ tat c T' p.name) : Full pre b c T' ∨ miss pre c T' < miss pre c T := by
  by_cases h : Closed pre c T
  · exact .inl fun p hp x d => hle p hp x (closed_all G I h d hp)
  · right
    unfold Closed at h
    have ⟨p, h⟩ := Classical.not_forall.mp h
    have ⟨hp, h⟩ := Classical.not_imp.mp h
    have ⟨x, h⟩ := Classical.not_forall.mp h
    have ⟨hx, hn⟩ := Classical.not_imp.mp h
    exact miss_lt hle hp (handP_der G I hp hx).2 hn (hall p hp x hx)
theorem full_le (F : Full pre b c T) (h : Le c T T') : Full pre b c T' := fun p hp x d => h p hp x (F p hp x d)
end Co

set_option Elab.async false
set_option linter.all false
set_option maxRecDepth 100000
set_option maxHeartbeats 1000000
set_option autoImplicit false
/-! CoF: forms. -/
namespace Co
open Z
abbrev Pr := Wd × Int
abbrev Fm := Int × List Pr
def prD (p : Pr) : D := .tup [.str p.1, .int p.2]
def fmD (f : Fm) : D := .tup [.int f.1, .tup (f.2.map prD)]
/-- a name's number is raised -/
def dadd : List Pr → Wd → Int → List Pr
  | [], x, c => [(x, c)]
  | (y, d) :: r, x, c => if y = x then (y, d + c) :: r else (y, d) :: dadd r x c
def val : List Pr → Wd → Int
  | [], _ => 0
  | (y, d) :: r, x => if y = x then d else val r x
def acc (ps : List Pr) : List Pr := ps.foldl (fun a p => dadd a p.1 p.2) []
def keysP (a : List Pr) : List Wd := a.map (·.1)
def nrm (ps : List Pr) : List Pr := ((sortL (keysP (acc ps))).filter fun x => decide (val (acc ps) x ≠ 0)).map fun x => (x, val (acc ps) x)
def kDs (a : List Pr) : List D := a.map fun p => .str p.1
def vDs (a : List Pr) : List D := a.map fun p => .int p.2
theorem look_val : ∀ (a : List Pr) (x : Wd), ((lookD (kDs a) (vDs a) (.str x)).getD (.int 0)) = .int (val a x)
  | [], x => rfl
  | (y, d) :: r, x => by
    simp only [kDs, vDs, List.map_cons, lookD, val]
    by_cases e : y = x
    · have e3 : (D.str y).eqv (D.str x) = true := by simp [D.eqv, e]
      simp only [e3, if_true, if_pos e, Option.getD_some]
    · have e3 : (D.str y).eqv (D.str x) = false := by simpa [D.eqv] using e
      simp only [e3, Bool.false_eq_true, if_false, if_neg e]
      exact look_val r x
theorem look_mem : ∀ (a : List Pr) (x : Wd), x ∈ keysP a → lookD (kDs a) (vDs a) (.str x) = some (.int (val a x))
  | (y, d) :: r, x, h => by
    simp only [kDs, vDs, List.map_cons, lookD, val]
    by_cases e : y = x
    · have e3 : (D.str y).eqv (D.str x) = true := by simp [D.eqv, e]
      simp only [e3, if_true, if_pos e]
    · have e3 : (D.str y).eqv (D.str x) = false := by simpa [D.eqv] using e
      simp only [e3, Bool.false_eq_true, if_false, if_neg e]
      simp only [keysP, List.map_cons, List.mem_cons] at h
      exact look_mem r x (h.resolve_left fun z => e z.symm)
theorem look_none : ∀ (a : List Pr) (x : Wd), x ∉ keysP a → lookD (kDs a) (vDs a) (.str x) = none
  | [], x, _ => rfl
  | (y, d) :: r, x, h => by
    simp only [keysP, List.map_cons, List.mem_cons, not_or] at h
    have e3 : (D.str y).eqv (D.str x) = false := by
      simp only [D.eqv, beq_eq_false_iff_ne]
      exact fun z => h.1 z.symm
    simp only [kDs, vDs, List.map_cons, lookD, e3]
    exact look_none r x h.2
theorem val_none : ∀ (a : List Pr) (x : Wd), x ∉ keysP a → val a x = 0
  | [], x, _ => rfl
  | (y, d) :: r, x, h => by
    simp only [keysP, List.map_cons, List.mem_cons, not_or] at h
    simp only [val]
    rw [if_neg fun z => h.1 z.symm]
    exact val_none r x h.2
theorem dadd_new : ∀ (a : List Pr) (x : Wd) (c : Int), x ∉ keysP a → dadd a x c = a ++ [(x, c)]
  | [], x, c, _ => rfl
  | (y, d) :: r, x, c, h => by
    simp only [keysP, List.map_cons, List.mem_cons, not_or] at h
    simp only [dadd]
    rw [if_neg fun z => h.1 z.symm, dadd_new r x c h.2]
    rfl
theorem keys_dadd : ∀ (a : List Pr) (x : Wd) (c : Int), x ∈ keysP a → keysP (dadd a x c) = keysP a
  | (y, d) :: r, x, c, h => by
    simp only [dadd]
    by_cases e : y = x
    · rw [if_pos e]; rfl
    · rw [if_neg e]
      simp only [keysP, List.map_cons, List.mem_cons] at h ⊢
      have := keys_dadd r x c (h.resolve_left fun z => e z.symm)
      simp only [keysP] at this
      rw [this]
theorem rep_none (d : D) : ∀ (a : List Pr) (x : Wd), x ∉ keysP a → repD (kDs a) (vDs a) (.str x) d = vDs a
  | [], x, _ => rfl
  | (y, e) :: r, x, h => by
    simp only [keysP, List.map_cons, List.mem_cons, not_or] at h
    have e3 : (D.str y).eqv (D.str x) = false := by
      simp only [D.eqv, beq_eq_false_iff_ne]
      exact fun z => h.1 z.symm
    have := rep_none d r x h.2
    simp only [kDs, vDs] at this
    simp only [kDs, vDs, List.map_cons, repD, e3, Bool.false_eq_true, if_false, this]
theorem rep_dadd : ∀ (a : List Pr) (x : Wd) (c : Int), (keysP a).Nodup → x ∈ keysP a → repD (kDs a) (vDs a) (.str x) (.int (val a x + c)) = vDs (dadd a x c)
  | (y, d) :: r, x, c, nd, h => by
    simp only [keysP, List.map_cons, List.nodup_cons] at nd
    by_cases e : y = x
    · subst e
      have e3 : (D.str y).eqv (D.str y) = true := by simp [D.eqv]
      have := rep_none (.int (d + c)) r y nd.1
      simp only [kDs, vDs] at this
      simp only [kDs, vDs, List.map_cons, repD, val, if_true, dadd, e3, this]
    · have e3 : (D.str y).eqv (D.str x) = false := by simpa [D.eqv] using e
      simp only [keysP, List.map_cons, List.mem_cons] at h
      have := rep_dadd r x c nd.2 (h.resolve_left fun z => e z.symm)
      simp only [kDs, vDs] at this
      simp only [kDs, vDs, List.map_cons, repD, val, if_neg e, dadd, e3, Bool.false_eq_true, if_false, this]
/-- the dict, as it is put -/
theorem put_dadd (a : List Pr) (x : Wd) (c : Int) (nd : (keysP a).Nodup) : putD (kDs a) (vDs a) (.str x) (.int (val a x + c)) = (kDs (dadd a x c), vDs (dadd a x c)) := by
  by_cases h : x ∈ keysP a
  · unfold putD
    rw [look_mem a x h]
    simp only [Option.isSome_some, if_true]
    have hk : kDs (dadd a x c) = kDs a := by
      have := congrArg (List.map D.str) (keys_dadd a x c h)
      simpa [keysP, kDs, Function.comp_def] using this
    rw [hk, rep_dadd a x c nd h]
  · unfold putD
    rw [look_none a x h]
    simp only [Option.isSome_none, Bool.false_eq_true, if_false]
    rw [dadd_new a x c h, val_none a x h, Int.zero_add]
    simp [kDs, vDs]
theorem nd_dadd (a : List Pr) (x : Wd) (c : Int) (nd : (keysP a).Nodup) : (keysP (dadd a x c)).Nodup := by
  by_cases h : x ∈ keysP a
  · rw [keys_dadd a x c h]; exact nd
  · rw [dadd_new a x c h]
    simp only [keysP, List.map_append, List.map_cons, List.map_nil] at h ⊢
    refine List.nodup_append.mpr ⟨nd, by simp, fun y hy z hz => ?_⟩
    rw [List.mem_singleton] at hz
    subst hz
    exact fun e => h (e ▸ hy)
theorem mem_dadd (a : List Pr) (x : Wd) (c : Int) {y : Wd} (h : y ∈ keysP (dadd a x c)) : y ∈ keysP a ∨ y = x := by
  by_cases hx : x ∈ keysP a
  · rw [keys_dadd a x c hx] at h; exact .inl h
  · rw [dadd_new a x c hx] at h
    simp only [keysP, List.map_append, List.map_cons, List.map_nil, List.mem_append, List.mem_singleton] at h ⊢
    exact h
/-- the forms' names -/
structure UOk (U : List Wd) : Prop where
  len : U.length < 64
  tx : ∀ x ∈ U, txtB x = true
def inU (U : List Wd) (ps : List Pr) : Prop := ∀ p ∈ ps, p.1 ∈ U
theorem fold_ok {U : List Wd} : ∀ (ps a : List Pr), inU U ps → (keysP a).Nodup → (∀ x ∈ keysP a, x ∈ U) → (keysP (ps.foldl (fun a p => dadd a p.1 p.2) a)).Nodup ∧ ∀ x ∈ keysP (ps.foldl (fun a p => dadd a p.1 p.2) a), x ∈ U
  | [], a, _, nd, h => ⟨nd, h⟩
  | p :: ps, a, hp, nd, h => fold_ok ps _ (fun q hq => hp q (List.mem_cons_of_mem _ hq)) (nd_dadd a p.1 p.2 nd) fun x hx => (mem_dadd a p.1 p.2 hx).elim (h x) fun e => e ▸ hp p List.mem_cons_self
theorem acc_ok {U : List Wd} {ps : List Pr} (h : inU U ps) : (keysP (acc ps)).Nodup ∧ ∀ x ∈ keysP (acc ps), x ∈ U := fold_ok ps [] h List.nodup_nil (by simp [keysP])
theorem nodup_len {α : Type} [DecidableEq α] : ∀ {l U : List α}, l.Nodup → (∀ x ∈ l, x ∈ U) → l.length ≤ U.length
  | [], U, _, _ => Nat.zero_le _
  | x :: l, U, nd, h => by
    simp only [List.nodup_cons] at nd
    have hx := h x List.mem_cons_self
    have := nodup_len (l := l) (U := U.erase x) nd.2 fun y hy => by
      have hne : y ≠ x := fun e => nd.1 (by rw [← e]; exact hy)
      exact (List.mem_erase_of_ne hne).mpr (h y (List.mem_cons_of_mem _ hy))
    rw [List.length_erase_of_mem hx] at this
    have := List.length_pos_of_mem hx
    simp only [List.length_cons]
    omega
theorem acc_len {U : List Wd} {ps : List Pr} (u : UOk U) (h : inU U ps) : (acc ps).length < 64 := by
  obtain ⟨h1, h2⟩ := acc_ok h
  have := nodup_len h1 h2
  simp only [keysP, List.length_map] at this
  have := u.len
  omega
/-- in order, once each, no nought -/
structure Wf (U : List Wd) (f : Fm) : Prop where
  u : inU U f.2
  srt : f.2.Pairwise fun a b => ltL a.1 b.1 = true
  nz : ∀ p ∈ f.2, p.2 ≠ 0
theorem lt_irr (x : Wd) : ltL x x = false := leL_refl x
theorem sorted_nd {l : List Wd} (s : l.Pairwise leL) (nd : l.Nodup) : l.Pairwise fun a b => ltL a b = true := by
  induction l with
  | nil => exact .nil
  | cons x l ih =>
    simp only [List.nodup_cons] at nd
    obtain ⟨h1, h2⟩ := List.pairwise_cons.mp s
    refine List.pairwise_cons.mpr ⟨fun y hy => ?_, ih h2 nd.2⟩
    cases e : ltL x y with
    | true => rfl
    | false => exact absurd (leL_anti (h1 y hy) e) fun z => nd.1 (z ▸ hy)
theorem nrm_wf {U : List Wd} {ps : List Pr} (c : Int) (h : inU U ps) : Wf U (c, nrm ps) := by
  obtain ⟨h1, h2⟩ := acc_ok h
  have hp := sortL_perm (keysP (acc ps))
  refine ⟨fun p hp' => ?_, ?_, fun p hp' => ?_⟩
  · obtain ⟨x, hx, rfl⟩ := List.mem_map.mp hp'
    exact h2 x (hp.mem_iff.mp (List.mem_filter.mp hx).1)
  · have s := sorted_nd (sortL_sorted (keysP (acc ps))) (hp.nodup_iff.mpr h1)
    unfold nrm
    rw [List.pairwise_map]
    exact s.filter _
  · obtain ⟨x, hx, rfl⟩ := List.mem_map.mp hp'
    simpa using (List.mem_filter.mp hx).2
theorem acc_self : ∀ (ps a : List Pr), ((a ++ ps).map (·.1)).Nodup → ps.foldl (fun a p => dadd a p.1 p.2) a = a ++ ps
  | [], a, _ => by simp
  | p :: ps, a, nd => by
    have hp : p.1 ∉ keysP a := by
      rw [List.map_append, List.map_cons] at nd
      exact fun z => (List.nodup_append.mp nd).2.2 _ z _ List.mem_cons_self rfl
    simp only [List.foldl_cons]
    rw [dadd_new a p.1 p.2 hp, acc_self ps (a ++ [(p.1, p.2)]) (by simpa using nd)]
    simp
theorem wf_nd {U : List Wd} {f : Fm} (w : Wf U f) : (f.2.map (·.1)).Nodup := by
  rw [List.nodup_iff_pairwise_ne, List.pairwise_map]
  refine w.srt.imp fun {a b} h e => ?_
  rw [e, lt_irr] at h
  cases h
theorem val_mem : ∀ {a : List Pr} {p : Pr}, (a.map (·.1)).Nodup → p ∈ a → val a p.1 = p.2
  | (y, d) :: r, p, nd, h => by
    simp only [List.map_cons, List.nodup_cons] at nd
    simp only [val]
    rcases List.mem_cons.mp h with rfl | h
    · rw [if_pos rfl]
    · rw [if_neg (show ¬ y = p.1 from fun e => nd.1 (by rw [e]; exact List.mem_map.mpr ⟨p, h, rfl⟩))]
      exact val_mem nd.2 h
/-- a form's own pairs stay as they are -/
theorem nrm_self {U : List Wd} {f : Fm} (w : Wf U f) : nrm f.2 = f.2 := by
  have nd := wf_nd w
  have e : acc f.2 = f.2 := by
    have := acc_self f.2 [] (by simpa using nd)
    simpa [acc] using this
  have hs : sortL (keysP f.2) = keysP f.2 := by
    refine sorted_uniq (sortL_perm _) (sortL_sorted _) ?_
    unfold keysP
    rw [List.pairwise_map]
    exact w.srt.imp fun {a b} h => leL_of_lt h
  unfold nrm
  rw [e, hs]
  have hf : (keysP f.2).filter (fun x => decide (val f.2 x ≠ 0)) = keysP f.2 := by
    rw [List.filter_eq_self]
    intro x hx
    obtain ⟨p, hp, rfl⟩ := List.mem_map.mp hx
    rw [val_mem nd hp]
    simpa using w.nz p hp
  rw [hf]
  unfold keysP
  rw [List.map_map]
  have : ∀ l : List Pr, (∀ p ∈ l, p ∈ f.2) → l.map ((fun x => (x, val f.2 x)) ∘ fun p => p.1) = l := by
    intro l
    induction l with
    | nil => intro _; rfl
    | cons p l ih =>
      intro h
      simp only [List.map_cons, Function.comp_apply]
      rw [val_mem nd (h p List.mem_cons_self), ih fun q hq => h q (List.mem_cons_of_mem _ hq)]
  exact this f.2 fun p hp => hp
/-! ### sums -/
def sc (k : Int) (ps : List Pr) : List Pr := ps.map fun p => (p.1, k * p.2)
def fvar (x : Wd) : Fm := (0, [(x, 1)])
def fplus (f g : Fm) : Fm := if g.2 = [] then (f.1 + g.1, f.2) else (f.1 + g.1, nrm (f.2 ++ g.2))
def ftimes (k : Int) (f : Fm) : Fm := if k = 0 then (0, []) else (k * f.1, sc k f.2)
def fminus (f g : Fm) : Fm := fplus f (ftimes (-1) g)
def lpairs (l : List (Int × Fm)) : List Pr := l.flatMap fun z => sc z.1 z.2.2
def lconst (l : List (Int × Fm)) : Int := l.foldl (fun a z => a + z.1 * z.2.1) 0
def lsum (l : List (Int × Fm)) : Fm := (lconst l, nrm (lpairs l))
theorem sc_one (ps : List Pr) : sc 1 ps = ps := by
  unfold sc
  induction ps with
  | nil => rfl
  | cons p ps ih => simp [ih]
theorem sc_in {U : List Wd} {k : Int} {ps : List Pr} (h : inU U ps) : inU U (sc k ps) := fun p hp => by
  obtain ⟨q, hq, rfl⟩ := List.mem_map.mp hp
  exact h q hq
theorem app_in {U : List Wd} {ps qs : List Pr} (h : inU U ps) (h2 : inU U qs) : inU U (ps ++ qs) := fun p hp => (List.mem_append.mp hp).elim (h p) (h2 p)
theorem sc_wf {U : List Wd} {k : Int} {f : Fm} (hk : k ≠ 0) (w : Wf U f) (c : Int) : Wf U (c, sc k f.2) := by
  refine ⟨sc_in w.u, ?_, fun p hp => ?_⟩
  · show (sc k f.2).Pairwise _
    unfold sc
    rw [List.pairwise_map]
    exact w.srt
  · obtain ⟨q, hq, rfl⟩ := List.mem_map.mp hp
    exact Int.mul_ne_zero hk (w.nz q hq)
theorem fvar_wf {U : List Wd} {x : Wd} (h : x ∈ U) : Wf U (fvar x) := ⟨fun p hp => by rw [List.mem_singleton.mp hp]; exact h, List.pairwise_singleton _ _, fun p hp => by rw [List.mem_singleton.mp hp]; exact (by decide : (1 : Int) ≠ 0)⟩
theorem const_wf {U : List Wd} (c : Int) : Wf U (c, []) := ⟨fun p hp => (by cases hp), List.Pairwise.nil, fun p hp => (by cases hp)⟩
theorem ftimes_wf {U : List Wd} (k : Int) {f : Fm} (w : Wf U f) : Wf U (ftimes k f) := by
  unfold ftimes
  split
  · exact const_wf 0
  · rename_i h
    exact sc_wf h w _
theorem fplus_wf {U : List Wd} {f g : Fm} (wf : Wf U f) (wg : Wf U g) : Wf U (fplus f g) := by
  unfold fplus
  split
  · exact ⟨wf.u, wf.srt, wf.nz⟩
  · exact nrm_wf _ (app_in wf.u wg.u)
theorem fminus_wf {U : List Wd} {f g : Fm} (wf : Wf U f) (wg : Wf U g) : Wf U (fminus f g) := fplus_wf wf (ftimes_wf _ wg)
theorem lsum_one {U : List Wd} {k : Int} {f : Fm} (hk : k ≠ 0) (w : Wf U f) : lsum [(k, f)] = ftimes k f := by
  unfold lsum ftimes
  rw [if_neg hk]
  have h1 : lconst [(k, f)] = k * f.1 := by simp [lconst]
  have h2 : lpairs [(k, f)] = sc k f.2 := by simp [lpairs]
  rw [h1, h2, nrm_self (sc_wf hk w 0)]
theorem lsum_two {U : List Wd} {k : Int} {f g : Fm} (hk : k ≠ 0) (wf : Wf U f) (wg : Wf U g) : lsum [(1, f), (k, g)] = fplus f (ftimes k g) := by
  unfold lsum fplus ftimes
  rw [if_neg hk]
  have h1 : lconst [(1, f), (k, g)] = f.1 + k * g.1 := by simp [lconst]
  have h2 : lpairs [(1, f), (k, g)] = f.2 ++ sc k g.2 := by simp [lpairs, sc_one]
  rw [h1, h2]
  split
  · rename_i e
    have e : sc k g.2 = [] := e
    rw [e, List.append_nil, nrm_self wf]
  · rfl
theorem ftimes_one {U : List Wd} {f : Fm} (w : Wf U f) : ftimes 1 f = f := by
  unfold ftimes
  rw [if_neg (by decide), sc_one, Int.one_mul]
/-! ### equality -/
theorem eqv_pr (p q : Pr) : (prD p).eqv (prD q) = decide (p = q) := by
  obtain ⟨x, c⟩ := p
  obtain ⟨y, d⟩ := q
  simp only [prD, D.eqv, eqvs, Bool.and_true, Prod.mk.injEq]
  by_cases h : x = y
  · by_cases h2 : c = d
    · simp [h, h2]
    · simp [h, h2]
  · simp [h]
theorem eqvs_pr : ∀ (l m : List Pr), eqvs (l.map prD) (m.map prD) = decide (l = m)
  | [], [] => rfl
  | [], _ :: _ => rfl
  | _ :: _, [] => rfl
  | p :: l, q :: m => by
    simp only [List.map_cons, eqvs, eqv_pr, eqvs_pr l m, List.cons.injEq]
    by_cases h : p = q
    · simp [h]
    · simp [h]
theorem eqv_fm (f g : Fm) : (fmD f).eqv (fmD g) = decide (f = g) := by
  obtain ⟨a, l⟩ := f
  obtain ⟨b, m⟩ := g
  simp only [fmD, D.eqv, eqvs, Bool.and_true, eqvs_pr, Prod.mk.injEq]
  by_cases h : a = b
  · by_cases h2 : l = m
    · simp [h, h2]
    · simp [h, h2]
  · simp [h]
theorem memD_fm (f : Fm) : ∀ l : List Fm, memD (fmD f) (l.map fmD) = decide (f ∈ l)
  | [] => by simp [memD]
  | g :: l => by
    have ih := memD_fm f l
    unfold memD at ih ⊢
    simp only [List.map_cons, List.any_cons, ih, eqv_fm, List.mem_cons]
    by_cases h : g = f
    · subst h; simp
    · rw [decide_eq_false h, Bool.false_or]
      simp [show ¬ f = g from fun z => h z.symm]
theorem plain_prs : ∀ l : List Pr, plains (l.map prD) = true
  | [] => rfl
  | p :: l => by simp [plains, prD, D.plain, plain_prs l]
theorem deep_prs : ∀ l : List Pr, deeps (l.map prD) ≤ 1
  | [] => by simp [deeps]
  | p :: l => by
    have := deep_prs l
    simp [deeps, prD, D.deep]
    omega
theorem fm_plain (f : Fm) : (fmD f).plain = true := by simp [fmD, D.plain, plains, plain_prs]
theorem fm_deep (f : Fm) : (fmD f).deep ≤ 3 := by
  have := deep_prs f.2
  simp [fmD, D.deep, deeps]
  omega
theorem fm_fit (f : Fm) : (fmD f).fit = true := by
  have := fm_deep f
  simp [D.fit, fm_plain]
  omega
theorem fms_plain : ∀ l : List Fm, plains (l.map fmD) = true
  | [] => rfl
  | f :: l => by simp [plains, fm_plain, fms_plain l]
theorem fms_deep : ∀ l : List Fm, deeps (l.map fmD) ≤ 3
  | [] => by simp [deeps]
  | f :: l => by
    have := fms_deep l
    have := fm_deep f
    simp [deeps]
    omega
theorem in_fms (f : Fm) (l : List Fm) : inD (fmD f) (.lst (l.map fmD)) = some (decide (f ∈ l)) := by
  have h := fms_deep l
  have h2 : deeps (l.map fmD) ≤ 63 := by omega
  simp [inD, fm_fit, fms_plain, memD_fm, h2]
theorem fder (S : List Cell) (f : Fm) : derefS S (fmD f) = some (fmD f) := rfl
theorem fix0 (f : Fm) : ixD (fmD f) (.int 0) = some (false, .int f.1) := by simp [fmD, ixD, atI_zero]
theorem fix1 (f : Fm) : ixD (fmD f) (.int 1) = some (false, .tup (f.2.map prD)) := by simp [fmD, ixD, atI_1]
end Co

set_option Elab.async false
set_option linter.all false
set_option maxRecDepth 100000
set_option maxHeartbeats 4000000
set_option autoImplicit false
/-! the Z-form of the program and the law (printed by gen.py) -/
namespace K62
open PySem PySem.Spec PyProof.Rows L2
def top (i : Nat) : Stmt := PySem.Challenge.pw_onlywhatmatters_k62_candidates.main.body.getD i (.Pass ⟨0, 0, 0, 0⟩)
def nm : Z.Nm := { fn := [("form" : Str), ("variable" : Str), ("plus" : Str), ("times" : Str), ("minus" : Str), ("statements_in" : Str), ("proc_named" : Str), ("assigned_in" : Str), ("passed_on" : Str), ("moving_table" : Str), ("variable_of" : Str), ("moving_items" : Str), ("states_of_proc" : Str), ("states_of" : Str), ("without_doubles" : Str), ("comparisons_of" : Str), ("plain_form" : Str), ("comparison_forms" : Str), ("is_steady" : Str), ("set_forms" : Str), ("differences" : Str), ("point_candidates" : Str), ("differences_of" : Str), ("_law_start" : Str), ("_law_draw" : Str), ("_law_one_of" : Str), ("_law_shuffled" : Str), ("_law_words" : Str), ("_law_is_int" : Str), ("_law_same" : Str), ("_law_form" : Str), ("_law_sum" : Str), ("_law_var" : Str), ("_law_names" : Str), ("_law_key" : Str), ("_law_statements" : Str), ("_law_moves" : Str), ("_law_states" : Str), ("_law_wild_head" : Str), ("_law_wild_value" : Str), ("_law_wild_call" : Str), ("_law_wild_test" : Str), ("_law_wild_statement" : Str), ("_law_wild_block" : Str), ("_law_wild_core" : Str), ("_law_plainly" : Str), ("_law_comparisons" : Str), ("_law_both_ways" : Str), ("_law_due" : Str), ("_law_steady" : Str), ("_law_hinted" : Str), ("law" : Str)], gl := [("ZERO" : Str), ("MINUS_ONE" : Str)], cl := [], fl := [], mt := [], ex := [], own := [], pn := [[("constant" : Str), ("pairs" : Str)], [("name" : Str)], [("f" : Str), ("g" : Str)], [("k" : Str), ("f" : Str)], [("f" : Str), ("g" : Str)], [("body" : Str)], [("core" : Str), ("name" : Str)], [("proc" : Str)], [("core" : Str), ("moving" : Str), ("proc" : Str)], [("core" : Str)], [("item" : Str)], [("proc" : Str), ("moving" : Str)], [("proc" : Str), ("moving" : Str)], [("core" : Str), ("name" : Str)], [("forms" : Str)], [("condition" : Str)], [("expression" : Str), ("states" : Str)], [("comparison" : Str), ("states" : Str)], [("expression" : Str), ("states" : Str)], [("x" : Str), ("expression" : Str), ("states" : Str)], [("items" : Str)], [("core" : Str), ("name" : Str)], [("f" : Str), ("g" : Str)], [("script" : Str)], [("state" : Str), ("most" : Str)], [("state" : Str), ("items" : Str)], [("state" : Str), ("items" : Str)], [("state" : Str), ("many" : Str)], [("x" : Str)], [("x" : Str), ("y" : Str)], [("constant" : Str), ("pairs" : Str)], [("parts" : Str)], [("name" : Str)], [("forms" : Str)], [("item" : Str)], [("body" : Str)], [("core" : Str)], [("p" : Str), ("moved" : Str)], [("state" : Str), ("name" : Str)], [("state" : Str), ("ints" : Str), ("arrays" : Str), ("depth" : Str)], [("state" : Str), ("heads" : Str), ("head" : Str)], [("state" : Str), ("ints" : Str), ("arrays" : Str), ("budget" : Str)], [("state" : Str), ("heads" : Str), ("head" : Str), ("depth" : Str), ("budget" : Str)], [("state" : Str), ("heads" : Str), ("head" : Str), ("depth" : Str), ("budget" : Str)], [("state" : Str)], [("e" : Str), ("states" : Str)], [("c" : Str)], [("f" : Str), ("g" : Str)], [("p" : Str), ("moved" : Str)], [("e" : Str), ("states" : Str)], [("state" : Str), ("p" : Str), ("moved" : Str)], [("script" : Str)]], kd := [] }
def f0_b1 : (List Z.S) := [(.put (.v 2) (.v 3) (.pr (.bin .Add) [(.mp .get2 (.v 2) [(.v 3), (.lit (.int 0))]), (.v 4)]))]
def f0_c2 : Z.E := (.comp (.v 3) [3] (.seq (.pr .sortedOf [(.v 2)])) [(.cmp .NotEq (.pr .ix [(.v 2), (.v 3)]) (.lit (.int 0)))] (.tup [(.v 3), (.pr .ix [(.v 2), (.v 3)])]))
theorem f0_c2r {f : Z.Sta → Z.Res (Bool × Z.D)} {s : Z.Sta} : Z.rdArg f0_c2 f s = (f s).bind fun x s1 => .ok (.val x.2) s1 := rfl
theorem f0_c2t {P : Z.Prog} {s : Z.Sta} : Z.exec P (.ret f0_c2) s = (Z.ev P f0_c2 s).then fun x s1 => .ret x.1 x.2 s1 := by simp only [Z.exec, f0_c2]
/-- form -/
def f0 : Z.Fn := ⟨2, 5,
   [(.set 2 (.dct [] [])),
    (.fr (.tup [(.v 3), (.v 4)]) (.seq (.v 1)) f0_b1),
    (.ret (.tup [(.v 0), (.pr .tupleOf [f0_c2])]))]⟩
abbrev N0 : List Str := [("constant" : Str), ("pairs" : Str), ("sums" : Str), ("name" : Str), ("coefficient" : Str)]
abbrev P0 : List Str := [("constant" : Str), ("pairs" : Str)]
abbrev s0 : Stmt := top 3
/-- variable -/
def f1 : Z.Fn := ⟨1, 1,
   [(.ret (.tup [(.lit (.int 0)), (.tup [(.tup [(.v 0), (.lit (.int 1))])])]))]⟩
abbrev N1 : List Str := [("name" : Str)]
abbrev P1 : List Str := [("name" : Str)]
abbrev s1 : Stmt := top 4
/-- plus -/
def f2 : Z.Fn := ⟨2, 2,
   [(.ife (.not (.e (.pr .ix [(.v 1), (.lit (.int 1))]))) [(.ret (.tup [(.pr (.bin .Add) [(.pr .ix [(.v 0), (.lit (.int 0))]), (.pr .ix [(.v 1), (.lit (.int 0))])]), (.pr .ix [(.v 0), (.lit (.int 1))])]))] []),
    (.ret (.call 0 [(.pr (.bin .Add) [(.pr .ix [(.v 0), (.lit (.int 0))]), (.pr .ix [(.v 1), (.lit (.int 0))])]), (.pr (.bin .Add) [(.pr .ix [(.v 0), (.lit (.int 1))]), (.pr .ix [(.v 1), (.lit (.int 1))])])]))]⟩
abbrev N2 : List Str := [("f" : Str), ("g" : Str)]
abbrev P2 : List Str := [("f" : Str), ("g" : Str)]
abbrev s2 : Stmt := top 5
def f3_c1 : Z.E := (.comp (.tup [(.v 2), (.v 3)]) [2, 3] (.seq (.pr .ix [(.v 1), (.lit (.int 1))])) [] (.tup [(.v 2), (.pr (.bin .Mult) [(.v 0), (.v 3)])]))
theorem f3_c1r {f : Z.Sta → Z.Res (Bool × Z.D)} {s : Z.Sta} : Z.rdArg f3_c1 f s = (f s).bind fun x s1 => .ok (.val x.2) s1 := rfl
theorem f3_c1t {P : Z.Prog} {s : Z.Sta} : Z.exec P (.ret f3_c1) s = (Z.ev P f3_c1 s).then fun x s1 => .ret x.1 x.2 s1 := by simp only [Z.exec, f3_c1]
/-- times -/
def f3 : Z.Fn := ⟨2, 4,
   [(.ife (.cmp .Eq (.v 0) (.lit (.int 0))) [(.ret (.g 0))] []),
    (.ret (.tup [(.pr (.bin .Mult) [(.v 0), (.pr .ix [(.v 1), (.lit (.int 0))])]), (.pr .tupleOf [f3_c1])]))]⟩
abbrev N3 : List Str := [("k" : Str), ("f" : Str), ("name" : Str), ("coefficient" : Str)]
abbrev P3 : List Str := [("k" : Str), ("f" : Str)]
abbrev s3 : Stmt := top 6
/-- minus -/
def f4 : Z.Fn := ⟨2, 2,
   [(.ret (.call 2 [(.v 0), (.call 3 [(.pr .neg [(.lit (.int 1))]), (.v 1)])]))]⟩
abbrev N4 : List Str := [("f" : Str), ("g" : Str)]
abbrev P4 : List Str := [("f" : Str), ("g" : Str)]
abbrev s4 : Stmt := top 7
def f5_b1 : (List Z.S) := [(.exp (.mu .extend (.v 1) [(.call 5 [(.v 3)])]))]
def f5_b2 : (List Z.S) := [(.exp (.mu .append (.v 1) [(.v 2)])),
    (.ife (.cmp .In (.pr .ix [(.v 2), (.lit (.int 0))]) (.tup [(.lit (.str [105, 102])), (.lit (.str [119, 104, 105, 108, 101]))])) [(.fr (.v 3) (.seq (.sl (.v 2) (some (.lit (.int 2))) none)) f5_b1)] [])]
/-- statements_in -/
def f5 : Z.Fn := ⟨1, 4,
   [(.set 1 (.lst [])),
    (.fr (.v 2) (.seq (.v 0)) f5_b2),
    (.ret (.v 1))]⟩
abbrev N5 : List Str := [("body" : Str), ("found" : Str), ("statement" : Str), ("block" : Str)]
abbrev P5 : List Str := [("body" : Str)]
abbrev s5 : Stmt := top 9
def f6_c1 : Z.E := (.comp (.v 2) [2] (.seq (.v 0)) [(.cmp .Eq (.pr .ix [(.v 2), (.lit (.int 0))]) (.v 1))] (.v 2))
theorem f6_c1r {f : Z.Sta → Z.Res (Bool × Z.D)} {s : Z.Sta} : Z.rdArg f6_c1 f s = (f s).bind fun x s1 => .ok (.val x.2) s1 := rfl
theorem f6_c1t {P : Z.Prog} {s : Z.Sta} : Z.exec P (.ret f6_c1) s = (Z.ev P f6_c1 s).then fun x s1 => .ret x.1 x.2 s1 := by simp only [Z.exec, f6_c1]
/-- proc_named -/
def f6 : Z.Fn := ⟨2, 3,
   [(.ret (.pr .ix [f6_c1, (.lit (.int 0))]))]⟩
abbrev N6 : List Str := [("core" : Str), ("name" : Str), ("proc" : Str)]
abbrev P6 : List Str := [("core" : Str), ("name" : Str)]
abbrev s6 : Stmt := top 10
def f7_c1 : Z.E := (.comp (.tup [(.v 3), (.v 4)]) [3, 4] (.seq (.pr .ix [(.v 2), (.lit (.int 1))])) [] (.v 3))
theorem f7_c1r {f : Z.Sta → Z.Res (Bool × Z.D)} {s : Z.Sta} : Z.rdArg f7_c1 f s = (f s).bind fun x s1 => .ok (.val x.2) s1 := rfl
theorem f7_c1t {P : Z.Prog} {s : Z.Sta} : Z.exec P (.ret f7_c1) s = (Z.ev P f7_c1 s).then fun x s1 => .ret x.1 x.2 s1 := by simp only [Z.exec, f7_c1]
def f7_b2 : (List Z.S) := [(.ife (.cmp .Eq (.pr .ix [(.v 2), (.lit (.int 0))]) (.lit (.str [115, 101, 116]))) [(.exp (.mu .extend (.v 1) [f7_c1]))] [(.ife (.cmp .Eq (.pr .ix [(.v 2), (.lit (.int 0))]) (.lit (.str [112, 111, 112]))) [(.exp (.mu .extend (.v 1) [(.lst [(.pr .ix [(.v 2), (.lit (.int 1))]), (.pr (.bin .Add) [(.lit (.str [35])), (.pr .ix [(.v 2), (.lit (.int 2))])])])]))] [(.ife (.cmp .Eq (.pr .ix [(.v 2), (.lit (.int 0))]) (.lit (.str [112, 117, 115, 104]))) [(.exp (.mu .append (.v 1) [(.pr (.bin .Add) [(.lit (.str [35])), (.pr .ix [(.v 2), (.lit (.int 2))])])]))] [(.ife (.cmp .Eq (.pr .ix [(.v 2), (.lit (.int 0))]) (.lit (.str [99, 97, 108, 108]))) [(.exp (.mu .extend (.v 1) [(.pr .ix [(.v 2), (.lit (.int 3))])]))] [])])])])]
/-- assigned_in -/
def f7 : Z.Fn := ⟨1, 5,
   [(.set 1 (.lst [])),
    (.fr (.v 2) (.seq (.call 5 [(.pr .ix [(.v 0), (.lit (.int 8))])])) f7_b2),
    (.ret (.v 1))]⟩
abbrev N7 : List Str := [("proc" : Str), ("found" : Str), ("statement" : Str), ("x" : Str), ("expression" : Str)]
abbrev P7 : List Str := [("proc" : Str)]
abbrev s7 : Stmt := top 11
def f8_b1 : (List Z.S) := [(.ife (.bop true [(.cmp .Eq (.pr .ix [(.v 6), (.lit (.int 0))]) (.lit (.str [97, 114, 114, 97, 121]))), (.cmp .In (.pr (.bin .Add) [(.lit (.str [35])), (.pr .ix [(.v 6), (.lit (.int 1))])]) (.pr .ix [(.v 1), (.pr .ix [(.v 4), (.lit (.int 1))])]))]) [(.exp (.mu .append (.v 3) [(.pr (.bin .Add) [(.lit (.str [35])), (.pr .ix [(.v 7), (.lit (.int 1))])])]))] [])]
def f8_b2 : (List Z.S) := [(.ife (.cmp .Eq (.pr .ix [(.v 4), (.lit (.int 0))]) (.lit (.str [99, 97, 108, 108]))) [(.set 5 (.pr .ix [(.call 6 [(.v 0), (.pr .ix [(.v 4), (.lit (.int 1))])]), (.lit (.int 1))])),
    (.fr (.tup [(.v 6), (.v 7)]) (.zip (.v 5) (.pr .ix [(.v 4), (.lit (.int 2))])) f8_b1)] [])]
/-- passed_on -/
def f8 : Z.Fn := ⟨3, 8,
   [(.set 3 (.lst [])),
    (.fr (.v 4) (.seq (.call 5 [(.pr .ix [(.v 2), (.lit (.int 8))])])) f8_b2),
    (.ret (.v 3))]⟩
abbrev N8 : List Str := [("core" : Str), ("moving" : Str), ("proc" : Str), ("found" : Str), ("statement" : Str), ("parameters" : Str), ("parameter" : Str), ("argument" : Str)]
abbrev P8 : List Str := [("core" : Str), ("moving" : Str), ("proc" : Str)]
abbrev s8 : Stmt := top 12
def f9_c1 : Z.E := (.dcomp (.v 2) [2] (.seq (.v 0)) [] (.pr .ix [(.v 2), (.lit (.int 0))]) (.cell (.call 7 [(.v 2)])))
theorem f9_c1r {f : Z.Sta → Z.Res (Bool × Z.D)} {s : Z.Sta} : Z.rdArg f9_c1 f s = (f s).bind fun x s1 => .ok (.val x.2) s1 := rfl
theorem f9_c1t {P : Z.Prog} {s : Z.Sta} : Z.exec P (.ret f9_c1) s = (Z.ev P f9_c1 s).then fun x s1 => .ret x.1 x.2 s1 := by simp only [Z.exec, f9_c1]
def f9_b2 : (List Z.S) := [(.ife (.cmp .NotIn (.v 4) (.pr .ix [(.v 1), (.pr .ix [(.v 2), (.lit (.int 0))])])) [(.exp (.mu .append (.pr .ix [(.v 1), (.pr .ix [(.v 2), (.lit (.int 0))])]) [(.v 4)])),
    (.set 3 (.lit (.bl true)))] [])]
def f9_b3 : (List Z.S) := [(.fr (.v 4) (.seq (.call 8 [(.v 0), (.v 1), (.v 2)])) f9_b2)]
def f9_b4 : (List Z.S) := [(.set 3 (.lit (.bl false))),
    (.fr (.v 2) (.seq (.v 0)) f9_b3)]
/-- moving_table -/
def f9 : Z.Fn := ⟨1, 5,
   [(.set 1 f9_c1),
    (.set 3 (.lit (.bl true))),
    (.whl (.e (.v 3)) f9_b4),
    (.ret (.v 1))]⟩
abbrev N9 : List Str := [("core" : Str), ("moving" : Str), ("proc" : Str), ("growing" : Str), ("name" : Str)]
abbrev P9 : List Str := [("core" : Str)]
abbrev s9 : Stmt := top 13
/-- variable_of -/
def f10 : Z.Fn := ⟨1, 1,
   [(.ife (.cmp .Eq (.pr .ix [(.v 0), (.lit (.int 0))]) (.lit (.str [97, 114, 114, 97, 121]))) [(.ret (.pr (.bin .Add) [(.lit (.str [35])), (.pr .ix [(.v 0), (.lit (.int 1))])]))] []),
    (.ret (.pr .ix [(.v 0), (.lit (.int 1))]))]⟩
abbrev N10 : List Str := [("item" : Str)]
abbrev P10 : List Str := [("item" : Str)]
abbrev s10 : Stmt := top 14
def f11_c1 : Z.E := (.comp (.v 2) [2] (.seq (.pr .ix [(.v 0), (.lit (.int 1))])) [(.cmp .In (.call 10 [(.v 2)]) (.pr .ix [(.v 1), (.pr .ix [(.v 0), (.lit (.int 0))])]))] (.v 2))
theorem f11_c1r {f : Z.Sta → Z.Res (Bool × Z.D)} {s : Z.Sta} : Z.rdArg f11_c1 f s = (f s).bind fun x s1 => .ok (.val x.2) s1 := rfl
theorem f11_c1t {P : Z.Prog} {s : Z.Sta} : Z.exec P (.ret f11_c1) s = (Z.ev P f11_c1 s).then fun x s1 => .ret x.1 x.2 s1 := by simp only [Z.exec, f11_c1]
/-- moving_items -/
def f11 : Z.Fn := ⟨2, 3,
   [(.ret f11_c1)]⟩
abbrev N11 : List Str := [("proc" : Str), ("moving" : Str), ("item" : Str)]
abbrev P11 : List Str := [("proc" : Str), ("moving" : Str)]
abbrev s11 : Stmt := top 15
def f12_c1 : Z.E := (.comp (.v 2) [2] (.seq (.pr (.bin .Add) [(.call 11 [(.v 0), (.v 1)]), (.pr .listOf [(.pr .ix [(.v 0), (.lit (.int 3))])])])) [] (.call 10 [(.v 2)]))
theorem f12_c1r {f : Z.Sta → Z.Res (Bool × Z.D)} {s : Z.Sta} : Z.rdArg f12_c1 f s = (f s).bind fun x s1 => .ok (.val x.2) s1 := rfl
theorem f12_c1t {P : Z.Prog} {s : Z.Sta} : Z.exec P (.ret f12_c1) s = (Z.ev P f12_c1 s).then fun x s1 => .ret x.1 x.2 s1 := by simp only [Z.exec, f12_c1]
/-- states_of_proc -/
def f12 : Z.Fn := ⟨2, 3,
   [(.ret (.pr .tupleOf [f12_c1]))]⟩
abbrev N12 : List Str := [("proc" : Str), ("moving" : Str), ("item" : Str)]
abbrev P12 : List Str := [("proc" : Str), ("moving" : Str)]
abbrev s12 : Stmt := top 16
/-- states_of -/
def f13 : Z.Fn := ⟨2, 2,
   [(.ret (.call 12 [(.call 6 [(.v 0), (.v 1)]), (.call 9 [(.v 0)])]))]⟩
abbrev N13 : List Str := [("core" : Str), ("name" : Str)]
abbrev P13 : List Str := [("core" : Str), ("name" : Str)]
abbrev s13 : Stmt := top 17
def f14_b1 : (List Z.S) := [(.ife (.bop true [(.e (.pr .ix [(.v 2), (.lit (.int 1))])), (.cmp .NotIn (.v 2) (.v 1))]) [(.exp (.mu .append (.v 1) [(.v 2)]))] [])]
/-- without_doubles -/
def f14 : Z.Fn := ⟨1, 3,
   [(.set 1 (.lst [(.pr .ix [(.v 0), (.lit (.int 0))])])),
    (.fr (.v 2) (.seq (.sl (.v 0) (some (.lit (.int 1))) none)) f14_b1),
    (.ret (.pr .tupleOf [(.v 1)]))]⟩
abbrev N14 : List Str := [("forms" : Str), ("found" : Str), ("f" : Str)]
abbrev P14 : List Str := [("forms" : Str)]
abbrev s14 : Stmt := top 19
def f15_b1 : (List Z.S) := [(.exp (.mu .extend (.v 1) [(.call 15 [(.v 2)])]))]
/-- comparisons_of -/
def f15 : Z.Fn := ⟨1, 3,
   [(.ife (.cmp .In (.pr .ix [(.v 0), (.lit (.int 0))]) (.tup [(.lit (.str [108, 101, 115, 115])), (.lit (.str [115, 97, 109, 101]))])) [(.ret (.lst [(.v 0)]))] []),
    (.set 1 (.lst [])),
    (.fr (.v 2) (.seq (.sl (.v 0) (some (.lit (.int 1))) none)) f15_b1),
    (.ret (.v 1))]⟩
abbrev N15 : List Str := [("condition" : Str), ("found" : Str), ("part" : Str)]
abbrev P15 : List Str := [("condition" : Str)]
abbrev s15 : Stmt := top 20
/-- plain_form -/
def f16 : Z.Fn := ⟨2, 7,
   [(.set 2 (.pr .ix [(.v 0), (.lit (.int 0))])),
    (.ife (.cmp .Eq (.v 2) (.lit (.str [110, 117, 109, 98, 101, 114]))) [(.ret (.tup [(.pr .ix [(.v 0), (.lit (.int 1))]), (.tup [])]))] []),
    (.ife (.bop false [(.cmp .Eq (.v 2) (.lit (.str [110, 97, 109, 101]))), (.cmp .Eq (.v 2) (.lit (.str [108, 101, 110, 103, 116, 104])))]) [(.set 3 (.ite (.cmp .Eq (.v 2) (.lit (.str [108, 101, 110, 103, 116, 104]))) (.pr (.bin .Add) [(.lit (.str [35])), (.pr .ix [(.v 0), (.lit (.int 1))])]) (.pr .ix [(.v 0), (.lit (.int 1))]))),
    (.ret (.ite (.cmp .In (.v 3) (.v 1)) (.call 1 [(.v 3)]) (.call 1 [(.pr (.bin .Add) [(.lit (.str [64])), (.v 3)])])))] []),
    (.ife (.cmp .Eq (.v 2) (.lit (.str [115, 99, 97, 108, 101]))) [(.set 4 (.call 16 [(.pr .ix [(.v 0), (.lit (.int 2))]), (.v 1)])),
    (.ret (.ite (.isN false (.v 4)) (.lit .non) (.call 3 [(.pr .ix [(.v 0), (.lit (.int 1))]), (.v 4)])))] []),
    (.ife (.bop false [(.cmp .Eq (.v 2) (.lit (.str [112, 108, 117, 115]))), (.cmp .Eq (.v 2) (.lit (.str [109, 105, 110, 117, 115])))]) [(.set 5 (.call 16 [(.pr .ix [(.v 0), (.lit (.int 1))]), (.v 1)])),
    (.set 6 (.call 16 [(.pr .ix [(.v 0), (.lit (.int 2))]), (.v 1)])),
    (.ife (.bop false [(.isN false (.v 5)), (.isN false (.v 6))]) [(.ret (.lit .non))] []),
    (.ret (.ite (.cmp .Eq (.v 2) (.lit (.str [112, 108, 117, 115]))) (.call 2 [(.v 5), (.v 6)]) (.call 4 [(.v 5), (.v 6)])))] []),
    (.ret (.lit .non))]⟩
abbrev N16 : List Str := [("expression" : Str), ("states" : Str), ("kind" : Str), ("name" : Str), ("inner" : Str), ("left" : Str), ("right" : Str)]
abbrev P16 : List Str := [("expression" : Str), ("states" : Str)]
abbrev s16 : Stmt := top 21
/-- comparison_forms -/
def f17 : Z.Fn := ⟨2, 6,
   [(.set 2 (.call 16 [(.pr .ix [(.v 0), (.lit (.int 1))]), (.v 1)])),
    (.set 3 (.call 16 [(.pr .ix [(.v 0), (.lit (.int 2))]), (.v 1)])),
    (.ife (.bop false [(.isN false (.v 2)), (.isN false (.v 3))]) [(.ret (.lst []))] []),
    (.set 4 (.call 4 [(.v 2), (.v 3)])),
    (.set 5 (.call 4 [(.v 3), (.v 2)])),
    (.ret (.lst [(.v 4), (.v 5), (.call 2 [(.v 4), (.g 1)]), (.call 2 [(.v 5), (.g 1)])]))]⟩
abbrev N17 : List Str := [("comparison" : Str), ("states" : Str), ("left" : Str), ("right" : Str), ("g" : Str), ("back" : Str)]
abbrev P17 : List Str := [("comparison" : Str), ("states" : Str)]
abbrev s17 : Stmt := top 22
/-- is_steady -/
def f18 : Z.Fn := ⟨2, 3,
   [(.set 2 (.pr .ix [(.v 0), (.lit (.int 0))])),
    (.ife (.cmp .Eq (.v 2) (.lit (.str [110, 97, 109, 101]))) [(.ret (.pr (.cmp .NotIn) [(.pr .ix [(.v 0), (.lit (.int 1))]), (.v 1)]))] []),
    (.ife (.cmp .Eq (.v 2) (.lit (.str [108, 101, 110, 103, 116, 104]))) [(.ret (.pr (.cmp .NotIn) [(.pr (.bin .Add) [(.lit (.str [35])), (.pr .ix [(.v 0), (.lit (.int 1))])]), (.v 1)]))] []),
    (.ife (.cmp .Eq (.v 2) (.lit (.str [115, 99, 97, 108, 101]))) [(.ret (.call 18 [(.pr .ix [(.v 0), (.lit (.int 2))]), (.v 1)]))] []),
    (.ife (.bop false [(.cmp .Eq (.v 2) (.lit (.str [112, 108, 117, 115]))), (.cmp .Eq (.v 2) (.lit (.str [109, 105, 110, 117, 115])))]) [(.ret (.bopV true [(.call 18 [(.pr .ix [(.v 0), (.lit (.int 1))]), (.v 1)]), (.call 18 [(.pr .ix [(.v 0), (.lit (.int 2))]), (.v 1)])]))] []),
    (.ret (.pr (.cmp .Eq) [(.v 2), (.lit (.str [110, 117, 109, 98, 101, 114]))]))]⟩
abbrev N18 : List Str := [("expression" : Str), ("states" : Str), ("kind" : Str)]
abbrev P18 : List Str := [("expression" : Str), ("states" : Str)]
abbrev s18 : Stmt := top 23
/-- set_forms -/
def f19 : Z.Fn := ⟨3, 3,
   [(.ife (.not (.e (.call 18 [(.v 1), (.v 2)]))) [(.ret (.lst []))] []),
    (.ret (.call 22 [(.call 1 [(.v 0)]), (.call 16 [(.v 1), (.v 2)])]))]⟩
abbrev N19 : List Str := [("x" : Str), ("expression" : Str), ("states" : Str)]
abbrev P19 : List Str := [("x" : Str), ("expression" : Str), ("states" : Str)]
abbrev s19 : Stmt := top 24
def f20_b1 : (List Z.S) := [(.set 3 (.call 1 [(.call 10 [(.v 2)])])),
    (.set 4 (.call 1 [(.pr (.bin .Add) [(.lit (.str [64])), (.call 10 [(.v 2)])])])),
    (.exp (.mu .extend (.v 1) [(.lst [(.call 4 [(.v 3), (.v 4)]), (.call 4 [(.v 4), (.v 3)])])]))]
/-- differences -/
def f20 : Z.Fn := ⟨1, 5,
   [(.set 1 (.lst [])),
    (.fr (.v 2) (.seq (.v 0)) f20_b1),
    (.ret (.v 1))]⟩
abbrev N20 : List Str := [("items" : Str), ("found" : Str), ("item" : Str), ("now" : Str), ("start" : Str)]
abbrev P20 : List Str := [("items" : Str)]
abbrev s20 : Stmt := top 25
def f21_c1 : Z.E := (.comp (.v 5) [5] (.seq (.v 3)) [] (.call 1 [(.v 5)]))
theorem f21_c1r {f : Z.Sta → Z.Res (Bool × Z.D)} {s : Z.Sta} : Z.rdArg f21_c1 f s = (f s).bind fun x s1 => .ok (.val x.2) s1 := rfl
theorem f21_c1t {P : Z.Prog} {s : Z.Sta} : Z.exec P (.ret f21_c1) s = (Z.ev P f21_c1 s).then fun x s1 => .ret x.1 x.2 s1 := by simp only [Z.exec, f21_c1]
def f21_b2 : (List Z.S) := [(.exp (.mu .extend (.v 4) [(.call 17 [(.v 8), (.v 3)])]))]
def f21_b3 : (List Z.S) := [(.ife (.cmp .In (.pr .ix [(.v 7), (.lit (.int 0))]) (.tup [(.lit (.str [105, 102])), (.lit (.str [119, 104, 105, 108, 101]))])) [(.fr (.v 8) (.seq (.call 15 [(.pr .ix [(.v 7), (.lit (.int 1))])])) f21_b2)] [])]
def f21_b4 : (List Z.S) := [(.exp (.mu .extend (.v 4) [(.call 19 [(.v 9), (.v 10), (.v 3)])]))]
def f21_b5 : (List Z.S) := [(.ife (.cmp .Eq (.pr .ix [(.v 7), (.lit (.int 0))]) (.lit (.str [115, 101, 116]))) [(.fr (.tup [(.v 9), (.v 10)]) (.seq (.pr .ix [(.v 7), (.lit (.int 1))])) f21_b4)] [])]
/-- point_candidates -/
def f21 : Z.Fn := ⟨2, 11,
   [(.set 2 (.call 6 [(.v 0), (.v 1)])),
    (.set 3 (.call 13 [(.v 0), (.v 1)])),
    (.set 4 (.pr (.bin .Add) [(.lst [(.g 1)]), f21_c1])),
    (.exp (.mu .extend (.v 4) [(.call 20 [(.call 11 [(.v 2), (.call 9 [(.v 0)])])])])),
    (.set 6 (.call 5 [(.pr .ix [(.v 2), (.lit (.int 8))])])),
    (.fr (.v 7) (.seq (.v 6)) f21_b3),
    (.fr (.v 7) (.seq (.v 6)) f21_b5),
    (.ret (.call 14 [(.pr (.bin .Add) [(.v 4), (.pr .listOf [(.pr .ix [(.v 2), (.lit (.int 5))])])])]))]⟩
abbrev N21 : List Str := [("core" : Str), ("name" : Str), ("proc" : Str), ("states" : Str), ("found" : Str), ("state" : Str), ("statements" : Str), ("statement" : Str), ("comparison" : Str), ("x" : Str), ("expression" : Str)]
abbrev P21 : List Str := [("core" : Str), ("name" : Str)]
abbrev s21 : Stmt := top 26
/-- differences_of -/
def f22 : Z.Fn := ⟨2, 2,
   [(.ret (.lst [(.call 4 [(.v 0), (.v 1)]), (.call 4 [(.v 1), (.v 0)])]))]⟩
abbrev N22 : List Str := [("f" : Str), ("g" : Str)]
abbrev P22 : List Str := [("f" : Str), ("g" : Str)]
abbrev s22 : Stmt := top 27
/-- _law_start -/
def f23 : Z.Fn := ⟨1, 1,
   [(.ret (.cell (.lst [(.pr .listOf [(.v 0)]), (.lit (.int 0)), (.lit (.int 0)), (.lit (.int 0))])))]⟩
abbrev N23 : List Str := [("script" : Str)]
abbrev P23 : List Str := [("script" : Str)]
abbrev s23 : Stmt := top 29
/-- _law_draw -/
def f24 : Z.Fn := ⟨2, 5,
   [(.put (.v 0) (.lit (.int 3)) (.pr (.bin .Add) [(.pr .ix [(.v 0), (.lit (.int 3))]), (.lit (.int 1))])),
    (.ife (.cmp .Gt (.pr .ix [(.v 0), (.lit (.int 2))]) (.lit (.int 0))) [(.set 2 (.pr (.bin .Mod) [(.pr .intOf [(.pr .ix [(.v 0), (.lit (.int 2))])]), (.v 1)])),
    (.put (.v 0) (.lit (.int 2)) (.pr (.bin .FloorDiv) [(.pr .ix [(.v 0), (.lit (.int 2))]), (.v 1)])),
    (.ret (.v 2))] []),
    (.set 3 (.lit (.int 0))),
    (.ife (.cmp .Gt (.pr .len [(.pr .ix [(.v 0), (.lit (.int 0))])]) (.lit (.int 0))) [(.set 3 (.pr .abs [(.pr .ix [(.pr .ix [(.v 0), (.lit (.int 0))]), (.pr (.bin .Mod) [(.pr .intOf [(.pr .ix [(.v 0), (.lit (.int 1))])]), (.pr .len [(.pr .ix [(.v 0), (.lit (.int 0))])])])])]))] []),
    (.put (.v 0) (.lit (.int 1)) (.pr (.bin .Add) [(.pr .ix [(.v 0), (.lit (.int 1))]), (.lit (.int 1))])),
    (.ife (.cmp .GtE (.v 3) (.pr (.bin .Pow) [(.lit (.int 10)), (.lit (.int 18))])) [(.put (.v 0) (.lit (.int 2)) (.pr (.bin .FloorDiv) [(.v 3), (.v 1)])),
    (.ret (.pr (.bin .Mod) [(.pr .intOf [(.v 3)]), (.v 1)]))] []),
    (.set 4 (.pr (.bin .Mod) [(.pr .intOf [(.pr (.bin .Add) [(.pr (.bin .Mult) [(.pr (.bin .Add) [(.v 3), (.lit (.int 1))]), (.lit (.int 48271))]), (.pr (.bin .Mult) [(.pr .ix [(.v 0), (.lit (.int 3))]), (.lit (.int 69621))])])]), (.lit (.int 2147483647))])),
    (.set 4 (.pr (.bin .Mod) [(.pr .intOf [(.pr (.bin .Add) [(.pr (.bin .Add) [(.pr (.bin .Mult) [(.v 4), (.lit (.int 16807))]), (.pr (.bin .FloorDiv) [(.v 3), (.lit (.int 97))])]), (.pr .ix [(.v 0), (.lit (.int 3))])])]), (.lit (.int 2147483629))])),
    (.ret (.pr (.bin .Mod) [(.pr (.bin .FloorDiv) [(.v 4), (.lit (.int 11))]), (.v 1)]))]⟩
abbrev N24 : List Str := [("state" : Str), ("most" : Str), ("found" : Str), ("cell" : Str), ("mixed" : Str)]
abbrev P24 : List Str := [("state" : Str), ("most" : Str)]
abbrev s24 : Stmt := top 30
/-- _law_one_of -/
def f25 : Z.Fn := ⟨2, 2,
   [(.ret (.pr .ix [(.v 1), (.call 24 [(.v 0), (.pr .len [(.v 1)])])]))]⟩
abbrev N25 : List Str := [("state" : Str), ("items" : Str)]
abbrev P25 : List Str := [("state" : Str), ("items" : Str)]
abbrev s25 : Stmt := top 31
def f26_b1 : (List Z.S) := [(.exp (.mu .insert (.v 2) [(.call 24 [(.v 0), (.pr (.bin .Add) [(.pr .len [(.v 2)]), (.lit (.int 1))])]), (.v 3)]))]
/-- _law_shuffled -/
def f26 : Z.Fn := ⟨2, 4,
   [(.set 2 (.lst [])),
    (.fr (.v 3) (.seq (.v 1)) f26_b1),
    (.ret (.v 2))]⟩
abbrev N26 : List Str := [("state" : Str), ("items" : Str), ("found" : Str), ("item" : Str)]
abbrev P26 : List Str := [("state" : Str), ("items" : Str)]
abbrev s26 : Stmt := top 32
def f27_c1 : Z.E := (.comp (.v 6) [6] (.rng [(.v 1)]) [] (.pr (.bin .Add) [(.v 5), (.pr .ix [(.v 2), (.pr (.bin .Mod) [(.pr .intOf [(.pr (.bin .Add) [(.v 3), (.pr (.bin .Mult) [(.v 6), (.v 4)])])]), (.lit (.int 26))])])]))
theorem f27_c1r {f : Z.Sta → Z.Res (Bool × Z.D)} {s : Z.Sta} : Z.rdArg f27_c1 f s = (f s).bind fun x s1 => .ok (.val x.2) s1 := rfl
theorem f27_c1t {P : Z.Prog} {s : Z.Sta} : Z.exec P (.ret f27_c1) s = (Z.ev P f27_c1 s).then fun x s1 => .ret x.1 x.2 s1 := by simp only [Z.exec, f27_c1]
def f27_c2 : Z.E := (.comp (.v 6) [6] (.rng [(.v 1)]) [] (.pr (.bin .Add) [(.pr .ix [(.v 2), (.pr (.bin .Mod) [(.pr .intOf [(.pr (.bin .Add) [(.v 3), (.pr (.bin .Mult) [(.v 6), (.v 4)])])]), (.lit (.int 26))])]), (.v 5)]))
theorem f27_c2r {f : Z.Sta → Z.Res (Bool × Z.D)} {s : Z.Sta} : Z.rdArg f27_c2 f s = (f s).bind fun x s1 => .ok (.val x.2) s1 := rfl
theorem f27_c2t {P : Z.Prog} {s : Z.Sta} : Z.exec P (.ret f27_c2) s = (Z.ev P f27_c2 s).then fun x s1 => .ret x.1 x.2 s1 := by simp only [Z.exec, f27_c2]
/-- _law_words -/
def f27 : Z.Fn := ⟨2, 7,
   [(.set 2 (.lit (.str [97, 98, 99, 100, 101, 102, 103, 104, 105, 106, 107, 108, 109, 110, 111, 112, 113, 114, 115, 116, 117, 118, 119, 120, 121, 122]))),
    (.set 3 (.call 24 [(.v 0), (.lit (.int 26))])),
    (.set 4 (.pr (.bin .Add) [(.lit (.int 1)), (.pr (.bin .Mult) [(.lit (.int 2)), (.call 24 [(.v 0), (.lit (.int 6))])])])),
    (.set 5 (.sl (.lit (.str [113, 120, 122])) none (some (.call 24 [(.v 0), (.lit (.int 4))])))),
    (.ife (.cmp .Eq (.call 24 [(.v 0), (.lit (.int 2))]) (.lit (.int 0))) [(.ret f27_c1)] []),
    (.ret f27_c2)]⟩
abbrev N27 : List Str := [("state" : Str), ("many" : Str), ("letters" : Str), ("start" : Str), ("step" : Str), ("shared" : Str), ("k" : Str)]
abbrev P27 : List Str := [("state" : Str), ("many" : Str)]
abbrev s27 : Stmt := top 33
/-- _law_is_int -/
def f28 : Z.Fn := ⟨1, 1,
   [(.ret (.bopV true [(.pr (.isi .int) [(.v 0)]), (.notV (.pr (.isi .bool) [(.v 0)]))]))]⟩
abbrev N28 : List Str := [("x" : Str)]
abbrev P28 : List Str := [("x" : Str)]
abbrev s28 : Stmt := top 34
def f29_c1 : Z.E := (.comp (.v 2) [2] (.rng [(.pr .len [(.v 1)])]) [] (.call 29 [(.pr .ix [(.v 0), (.v 2)]), (.pr .ix [(.v 1), (.v 2)])]))
theorem f29_c1r {f : Z.Sta → Z.Res (Bool × Z.D)} {s : Z.Sta} : Z.rdArg f29_c1 f s = (f s).bind fun x s1 => .ok (.val x.2) s1 := rfl
theorem f29_c1t {P : Z.Prog} {s : Z.Sta} : Z.exec P (.ret f29_c1) s = (Z.ev P f29_c1 s).then fun x s1 => .ret x.1 x.2 s1 := by simp only [Z.exec, f29_c1]
/-- _law_same -/
def f29 : Z.Fn := ⟨2, 3,
   [(.ife (.e (.pr (.isi .tuple) [(.v 1)])) [(.ife (.bop false [(.not (.e (.pr (.isi .tuple) [(.v 0)]))), (.cmp .NotEq (.pr .len [(.v 0)]) (.pr .len [(.v 1)]))]) [(.ret (.lit (.bl false)))] []),
    (.ret (.pr .allOf [f29_c1]))] []),
    (.ife (.e (.pr (.isi .str) [(.v 1)])) [(.ret (.bopV true [(.pr (.isi .str) [(.v 0)]), (.pr (.cmp .Eq) [(.v 0), (.v 1)])]))] []),
    (.ret (.bopV true [(.call 28 [(.v 0)]), (.pr (.cmp .Eq) [(.v 0), (.v 1)])]))]⟩
abbrev N29 : List Str := [("x" : Str), ("y" : Str), ("k" : Str)]
abbrev P29 : List Str := [("x" : Str), ("y" : Str)]
abbrev s29 : Stmt := top 35
def f30_b1 : (List Z.S) := [(.put (.v 2) (.v 3) (.pr (.bin .Add) [(.mp .get2 (.v 2) [(.v 3), (.lit (.int 0))]), (.v 4)]))]
def f30_c2 : Z.E := (.comp (.v 3) [3] (.seq (.pr .sortedOf [(.v 2)])) [(.cmp .NotEq (.pr .ix [(.v 2), (.v 3)]) (.lit (.int 0)))] (.tup [(.v 3), (.pr .ix [(.v 2), (.v 3)])]))
theorem f30_c2r {f : Z.Sta → Z.Res (Bool × Z.D)} {s : Z.Sta} : Z.rdArg f30_c2 f s = (f s).bind fun x s1 => .ok (.val x.2) s1 := rfl
theorem f30_c2t {P : Z.Prog} {s : Z.Sta} : Z.exec P (.ret f30_c2) s = (Z.ev P f30_c2 s).then fun x s1 => .ret x.1 x.2 s1 := by simp only [Z.exec, f30_c2]
/-- _law_form -/
def f30 : Z.Fn := ⟨2, 5,
   [(.set 2 (.dct [] [])),
    (.fr (.tup [(.v 3), (.v 4)]) (.seq (.v 1)) f30_b1),
    (.ret (.tup [(.v 0), (.pr .tupleOf [f30_c2])]))]⟩
abbrev N30 : List Str := [("constant" : Str), ("pairs" : Str), ("sums" : Str), ("name" : Str), ("number" : Str)]
abbrev P30 : List Str := [("constant" : Str), ("pairs" : Str)]
abbrev s30 : Stmt := top 36
def f31_b1 : (List Z.S) := [(.exp (.mu .append (.v 2) [(.tup [(.v 5), (.pr (.bin .Mult) [(.v 3), (.v 6)])])]))]
def f31_b2 : (List Z.S) := [(.set 1 (.pr (.bin .Add) [(.v 1), (.pr (.bin .Mult) [(.v 3), (.pr .ix [(.v 4), (.lit (.int 0))])])])),
    (.fr (.tup [(.v 5), (.v 6)]) (.seq (.pr .ix [(.v 4), (.lit (.int 1))])) f31_b1)]
/-- _law_sum -/
def f31 : Z.Fn := ⟨1, 7,
   [(.set 1 (.lit (.int 0))),
    (.set 2 (.lst [])),
    (.fr (.tup [(.v 3), (.v 4)]) (.seq (.v 0)) f31_b2),
    (.ret (.call 30 [(.v 1), (.v 2)]))]⟩
abbrev N31 : List Str := [("parts" : Str), ("constant" : Str), ("pairs" : Str), ("factor" : Str), ("f" : Str), ("name" : Str), ("number" : Str)]
abbrev P31 : List Str := [("parts" : Str)]
abbrev s31 : Stmt := top 37
/-- _law_var -/
def f32 : Z.Fn := ⟨1, 1,
   [(.ret (.tup [(.lit (.int 0)), (.tup [(.tup [(.v 0), (.lit (.int 1))])])]))]⟩
abbrev N32 : List Str := [("name" : Str)]
abbrev P32 : List Str := [("name" : Str)]
abbrev s32 : Stmt := top 38
def f33_b1 : (List Z.S) := [(.ife (.cmp .NotIn (.v 3) (.v 1)) [(.exp (.mu .append (.v 1) [(.v 3)]))] [])]
def f33_b2 : (List Z.S) := [(.fr (.tup [(.v 3), (.v 4)]) (.seq (.pr .ix [(.v 2), (.lit (.int 1))])) f33_b1)]
/-- _law_names -/
def f33 : Z.Fn := ⟨1, 5,
   [(.set 1 (.lst [])),
    (.fr (.v 2) (.seq (.v 0)) f33_b2),
    (.ret (.pr .sortedOf [(.v 1)]))]⟩
abbrev N33 : List Str := [("forms" : Str), ("found" : Str), ("f" : Str), ("name" : Str), ("number" : Str)]
abbrev P33 : List Str := [("forms" : Str)]
abbrev s33 : Stmt := top 39
/-- _law_key -/
def f34 : Z.Fn := ⟨1, 1,
   [(.ife (.cmp .Eq (.pr .ix [(.v 0), (.lit (.int 0))]) (.lit (.str [97, 114, 114, 97, 121]))) [(.ret (.pr (.bin .Add) [(.lit (.str [35])), (.pr .ix [(.v 0), (.lit (.int 1))])]))] []),
    (.ret (.pr .ix [(.v 0), (.lit (.int 1))]))]⟩
abbrev N34 : List Str := [("item" : Str)]
abbrev P34 : List Str := [("item" : Str)]
abbrev s34 : Stmt := top 40
def f35_b1 : (List Z.S) := [(.exp (.mu .append (.v 1) [(.v 2)])),
    (.ife (.cmp .Eq (.pr .ix [(.v 2), (.lit (.int 0))]) (.lit (.str [119, 104, 105, 108, 101]))) [(.set 1 (.pr (.bin .Add) [(.v 1), (.call 35 [(.pr .ix [(.v 2), (.lit (.int 2))])])]))] [(.ife (.cmp .Eq (.pr .ix [(.v 2), (.lit (.int 0))]) (.lit (.str [105, 102]))) [(.set 1 (.pr (.bin .Add) [(.pr (.bin .Add) [(.v 1), (.call 35 [(.pr .ix [(.v 2), (.lit (.int 2))])])]), (.call 35 [(.pr .ix [(.v 2), (.lit (.int 3))])])]))] [])])]
/-- _law_statements -/
def f35 : Z.Fn := ⟨1, 3,
   [(.set 1 (.lst [])),
    (.fr (.v 2) (.seq (.v 0)) f35_b1),
    (.ret (.v 1))]⟩
abbrev N35 : List Str := [("body" : Str), ("found" : Str), ("s" : Str)]
abbrev P35 : List Str := [("body" : Str)]
abbrev s35 : Stmt := top 41
def f36_c1 : Z.E := (.comp (.tup [(.v 5), (.v 6)]) [5, 6] (.seq (.pr .ix [(.v 4), (.lit (.int 1))])) [] (.v 5))
theorem f36_c1r {f : Z.Sta → Z.Res (Bool × Z.D)} {s : Z.Sta} : Z.rdArg f36_c1 f s = (f s).bind fun x s1 => .ok (.val x.2) s1 := rfl
theorem f36_c1t {P : Z.Prog} {s : Z.Sta} : Z.exec P (.ret f36_c1) s = (Z.ev P f36_c1 s).then fun x s1 => .ret x.1 x.2 s1 := by simp only [Z.exec, f36_c1]
def f36_b2 : (List Z.S) := [(.ife (.cmp .Eq (.pr .ix [(.v 4), (.lit (.int 0))]) (.lit (.str [115, 101, 116]))) [(.set 3 (.pr (.bin .Add) [(.v 3), f36_c1]))] [(.ife (.cmp .Eq (.pr .ix [(.v 4), (.lit (.int 0))]) (.lit (.str [112, 111, 112]))) [(.set 3 (.pr (.bin .Add) [(.v 3), (.lst [(.pr .ix [(.v 4), (.lit (.int 1))]), (.pr (.bin .Add) [(.lit (.str [35])), (.pr .ix [(.v 4), (.lit (.int 2))])])])]))] [(.ife (.cmp .Eq (.pr .ix [(.v 4), (.lit (.int 0))]) (.lit (.str [112, 117, 115, 104]))) [(.exp (.mu .append (.v 3) [(.pr (.bin .Add) [(.lit (.str [35])), (.pr .ix [(.v 4), (.lit (.int 2))])])]))] [(.ife (.cmp .Eq (.pr .ix [(.v 4), (.lit (.int 0))]) (.lit (.str [99, 97, 108, 108]))) [(.set 3 (.pr (.bin .Add) [(.v 3), (.pr .listOf [(.pr .ix [(.v 4), (.lit (.int 3))])])]))] [])])])])]
def f36_b3 : (List Z.S) := [(.set 3 (.lst [])),
    (.fr (.v 4) (.seq (.call 35 [(.pr .ix [(.v 2), (.lit (.int 8))])])) f36_b2),
    (.put (.v 1) (.pr .ix [(.v 2), (.lit (.int 0))]) (.v 3))]
def f36_c4 : Z.E := (.comp (.v 9) [9] (.seq (.v 0)) [(.cmp .Eq (.pr .ix [(.v 9), (.lit (.int 0))]) (.pr .ix [(.v 4), (.lit (.int 1))]))] (.v 9))
theorem f36_c4r {f : Z.Sta → Z.Res (Bool × Z.D)} {s : Z.Sta} : Z.rdArg f36_c4 f s = (f s).bind fun x s1 => .ok (.val x.2) s1 := rfl
theorem f36_c4t {P : Z.Prog} {s : Z.Sta} : Z.exec P (.ret f36_c4) s = (Z.ev P f36_c4 s).then fun x s1 => .ret x.1 x.2 s1 := by simp only [Z.exec, f36_c4]
def f36_c5 : Z.E := (.comp (.v 11) [11] (.rng [(.pr .len [(.v 8)])]) [(.cmp .In (.call 34 [(.pr .ix [(.v 8), (.v 11)])]) (.pr .ix [(.v 1), (.pr .ix [(.v 4), (.lit (.int 1))])]))] (.pr .ix [(.pr .ix [(.v 4), (.lit (.int 2))]), (.v 11)]))
theorem f36_c5r {f : Z.Sta → Z.Res (Bool × Z.D)} {s : Z.Sta} : Z.rdArg f36_c5 f s = (f s).bind fun x s1 => .ok (.val x.2) s1 := rfl
theorem f36_c5t {P : Z.Prog} {s : Z.Sta} : Z.exec P (.ret f36_c5) s = (Z.ev P f36_c5 s).then fun x s1 => .ret x.1 x.2 s1 := by simp only [Z.exec, f36_c5]
def f36_c6 : Z.E := (.comp (.v 6) [6] (.seq (.v 10)) [(.cmp .Eq (.pr .ix [(.v 6), (.lit (.int 0))]) (.lit (.str [97, 114, 114, 97, 121])))] (.pr (.bin .Add) [(.lit (.str [35])), (.pr .ix [(.v 6), (.lit (.int 1))])]))
theorem f36_c6r {f : Z.Sta → Z.Res (Bool × Z.D)} {s : Z.Sta} : Z.rdArg f36_c6 f s = (f s).bind fun x s1 => .ok (.val x.2) s1 := rfl
theorem f36_c6t {P : Z.Prog} {s : Z.Sta} : Z.exec P (.ret f36_c6) s = (Z.ev P f36_c6 s).then fun x s1 => .ret x.1 x.2 s1 := by simp only [Z.exec, f36_c6]
def f36_b7 : (List Z.S) := [(.ife (.cmp .Eq (.pr .ix [(.v 4), (.lit (.int 0))]) (.lit (.str [99, 97, 108, 108]))) [(.set 8 (.pr .ix [(.pr .ix [f36_c4, (.lit (.int 0))]), (.lit (.int 1))])),
    (.set 10 f36_c5),
    (.put (.v 1) (.pr .ix [(.v 2), (.lit (.int 0))]) (.pr (.bin .Add) [(.pr .ix [(.v 1), (.pr .ix [(.v 2), (.lit (.int 0))])]), f36_c6]))] [])]
def f36_b8 : (List Z.S) := [(.fr (.v 4) (.seq (.call 35 [(.pr .ix [(.v 2), (.lit (.int 8))])])) f36_b7)]
def f36_b9 : (List Z.S) := [(.fr (.v 2) (.seq (.v 0)) f36_b8)]
/-- _law_moves -/
def f36 : Z.Fn := ⟨1, 12,
   [(.set 1 (.dct [] [])),
    (.fr (.v 2) (.seq (.v 0)) f36_b3),
    (.fr (.v 7) (.rng [(.lit (.int 20))]) f36_b9),
    (.ret (.v 1))]⟩
abbrev N36 : List Str := [("core" : Str), ("table" : Str), ("p" : Str), ("keys" : Str), ("s" : Str), ("x" : Str), ("e" : Str), ("turn" : Str), ("parameters" : Str), ("q" : Str), ("passed" : Str), ("k" : Str)]
abbrev P36 : List Str := [("core" : Str)]
abbrev s36 : Stmt := top 42
def f37_c1 : Z.E := (.comp (.v 2) [2] (.seq (.pr .ix [(.v 0), (.lit (.int 1))])) [(.cmp .In (.call 34 [(.v 2)]) (.v 1))] (.call 34 [(.v 2)]))
theorem f37_c1r {f : Z.Sta → Z.Res (Bool × Z.D)} {s : Z.Sta} : Z.rdArg f37_c1 f s = (f s).bind fun x s1 => .ok (.val x.2) s1 := rfl
theorem f37_c1t {P : Z.Prog} {s : Z.Sta} : Z.exec P (.ret f37_c1) s = (Z.ev P f37_c1 s).then fun x s1 => .ret x.1 x.2 s1 := by simp only [Z.exec, f37_c1]
def f37_c2 : Z.E := (.comp (.v 2) [2] (.seq (.pr .ix [(.v 0), (.lit (.int 3))])) [] (.call 34 [(.v 2)]))
theorem f37_c2r {f : Z.Sta → Z.Res (Bool × Z.D)} {s : Z.Sta} : Z.rdArg f37_c2 f s = (f s).bind fun x s1 => .ok (.val x.2) s1 := rfl
theorem f37_c2t {P : Z.Prog} {s : Z.Sta} : Z.exec P (.ret f37_c2) s = (Z.ev P f37_c2 s).then fun x s1 => .ret x.1 x.2 s1 := by simp only [Z.exec, f37_c2]
/-- _law_states -/
def f37 : Z.Fn := ⟨2, 3,
   [(.ret (.pr (.bin .Add) [f37_c1, f37_c2]))]⟩
abbrev N37 : List Str := [("p" : Str), ("moved" : Str), ("item" : Str)]
abbrev P37 : List Str := [("p" : Str), ("moved" : Str)]
abbrev s37 : Stmt := top 43
def f38_c1 : Z.E := (.comp (.tup [(.v 6), (.v 7)]) [6, 7] (.seq (.pr (.bin .Add) [(.v 3), (.v 4)])) [(.cmp .Eq (.v 6) (.lit (.str [105, 110, 116])))] (.v 7))
theorem f38_c1r {f : Z.Sta → Z.Res (Bool × Z.D)} {s : Z.Sta} : Z.rdArg f38_c1 f s = (f s).bind fun x s1 => .ok (.val x.2) s1 := rfl
theorem f38_c1t {P : Z.Prog} {s : Z.Sta} : Z.exec P (.ret f38_c1) s = (Z.ev P f38_c1 s).then fun x s1 => .ret x.1 x.2 s1 := by simp only [Z.exec, f38_c1]
def f38_c2 : Z.E := (.comp (.tup [(.v 6), (.v 7)]) [6, 7] (.seq (.pr (.bin .Add) [(.v 3), (.v 4)])) [(.cmp .Eq (.v 6) (.lit (.str [97, 114, 114, 97, 121])))] (.v 7))
theorem f38_c2r {f : Z.Sta → Z.Res (Bool × Z.D)} {s : Z.Sta} : Z.rdArg f38_c2 f s = (f s).bind fun x s1 => .ok (.val x.2) s1 := rfl
theorem f38_c2t {P : Z.Prog} {s : Z.Sta} : Z.exec P (.ret f38_c2) s = (Z.ev P f38_c2 s).then fun x s1 => .ret x.1 x.2 s1 := by simp only [Z.exec, f38_c2]
/-- _law_wild_head -/
def f38 : Z.Fn := ⟨2, 8,
   [(.set 2 (.call 27 [(.v 0), (.lit (.int 7))])),
    (.set 3 (.sl (.call 26 [(.v 0), (.lst [(.tup [(.lit (.str [105, 110, 116])), (.pr .ix [(.v 2), (.lit (.int 0))])]), (.tup [(.lit (.str [105, 110, 116])), (.pr .ix [(.v 2), (.lit (.int 1))])]), (.tup [(.lit (.str [97, 114, 114, 97, 121])), (.pr .ix [(.v 2), (.lit (.int 2))])])])]) (some (.call 24 [(.v 0), (.lit (.int 3))])) none)),
    (.set 4 (.lst [(.tup [(.lit (.str [105, 110, 116])), (.pr .ix [(.v 2), (.lit (.int 3))])]), (.tup [(.lit (.str [105, 110, 116])), (.pr (.bin .Add) [(.pr (.bin .Add) [(.pr .ix [(.v 2), (.lit (.int 4))]), (.lit (.str [46]))]), (.pr .ix [(.v 2), (.lit (.int 0))])])]), (.tup [(.lit (.str [97, 114, 114, 97, 121])), (.pr .ix [(.v 2), (.lit (.int 5))])]), (.tup [(.lit (.str [97, 114, 114, 97, 121])), (.pr .ix [(.v 2), (.lit (.int 6))])])])),
    (.set 4 (.call 26 [(.v 0), (.v 4)])),
    (.set 5 (.dct [(.str [110, 97, 109, 101]), (.str [105, 116, 101, 109, 115]), (.str [112, 108, 97, 99, 101, 115]), (.str [114, 101, 115, 117, 108, 116, 115])] [(.v 1), (.v 3), (.v 4), (.sl (.tup [(.lit (.str [114, 101, 115, 117, 108, 116]))]) none (some (.call 24 [(.v 0), (.lit (.int 2))])))])),
    (.put (.v 5) (.lit (.str [105, 110, 116, 115])) f38_c1),
    (.put (.v 5) (.lit (.str [97, 114, 114, 97, 121, 115])) f38_c2),
    (.ret (.v 5))]⟩
abbrev N38 : List Str := [("state" : Str), ("name" : Str), ("words" : Str), ("items" : Str), ("places" : Str), ("head" : Str), ("kind" : Str), ("x" : Str)]
abbrev P38 : List Str := [("state" : Str), ("name" : Str)]
abbrev s38 : Stmt := top 44
/-- _law_wild_value -/
def f39 : Z.Fn := ⟨4, 7,
   [(.set 4 (.tup [(.lit (.str [110, 97, 109, 101])), (.call 25 [(.v 0), (.v 1)])])),
    (.set 5 (.call 24 [(.v 0), (.lit (.int 11))])),
    (.ife (.bop false [(.cmp .Lt (.v 5) (.lit (.int 4))), (.cmp .Eq (.v 3) (.lit (.int 0)))]) [(.ret (.v 4))] []),
    (.ife (.cmp .Eq (.v 5) (.lit (.int 4))) [(.ret (.tup [(.lit (.str [110, 117, 109, 98, 101, 114])), (.call 24 [(.v 0), (.lit (.int 6))])]))] []),
    (.ife (.cmp .Eq (.v 5) (.lit (.int 5))) [(.ret (.tup [(.lit (.str [108, 101, 110, 103, 116, 104])), (.call 25 [(.v 0), (.v 2)])]))] []),
    (.set 6 (.call 39 [(.v 0), (.v 1), (.v 2), (.pr (.bin .Sub) [(.v 3), (.lit (.int 1))])])),
    (.ife (.cmp .Eq (.v 5) (.lit (.int 6))) [(.ret (.tup [(.lit (.str [105, 116, 101, 109])), (.call 25 [(.v 0), (.v 2)]), (.v 6)]))] []),
    (.ife (.cmp .Eq (.v 5) (.lit (.int 7))) [(.ret (.tup [(.pr .ix [(.lst [(.lit (.str [113, 117, 111, 116, 105, 101, 110, 116])), (.lit (.str [114, 101, 109, 97, 105, 110, 100, 101, 114]))]), (.call 24 [(.v 0), (.lit (.int 2))])]), (.v 6), (.pr (.bin .Add) [(.lit (.int 1)), (.call 24 [(.v 0), (.lit (.int 4))])])]))] []),
    (.ife (.cmp .Eq (.v 5) (.lit (.int 8))) [(.ret (.tup [(.lit (.str [115, 99, 97, 108, 101])), (.pr .ix [(.lst [(.pr .neg [(.lit (.int 1))]), (.lit (.int 2))]), (.call 24 [(.v 0), (.lit (.int 2))])]), (.v 6)]))] []),
    (.ret (.tup [(.pr .ix [(.lst [(.lit (.str [112, 108, 117, 115])), (.lit (.str [109, 105, 110, 117, 115]))]), (.call 24 [(.v 0), (.lit (.int 2))])]), (.v 6), (.tup [(.lit (.str [110, 117, 109, 98, 101, 114])), (.pr (.bin .Add) [(.lit (.int 1)), (.call 24 [(.v 0), (.lit (.int 3))])])])]))]⟩
abbrev N39 : List Str := [("state" : Str), ("ints" : Str), ("arrays" : Str), ("depth" : Str), ("x" : Str), ("pick" : Str), ("inner" : Str)]
abbrev P39 : List Str := [("state" : Str), ("ints" : Str), ("arrays" : Str), ("depth" : Str)]
abbrev s39 : Stmt := top 45
def f40_b1 : (List Z.S) := [(.ife (.cmp .Eq (.v 6) (.lit (.str [97, 114, 114, 97, 121]))) [(.exp (.mu .append (.v 5) [(.tup [(.lit (.str [97, 114, 114, 97, 121])), (.mu .pop (.v 4) [])])]))] [(.exp (.mu .append (.v 5) [(.call 39 [(.v 0), (.pr .ix [(.v 2), (.lit (.str [105, 110, 116, 115]))]), (.pr .ix [(.v 2), (.lit (.str [97, 114, 114, 97, 121, 115]))]), (.lit (.int 1))])]))])]
/-- _law_wild_call -/
def f40 : Z.Fn := ⟨3, 9,
   [(.set 3 (.call 25 [(.v 0), (.v 1)])),
    (.set 4 (.call 26 [(.v 0), (.pr .ix [(.v 2), (.lit (.str [97, 114, 114, 97, 121, 115]))])])),
    (.set 5 (.lst [])),
    (.fr (.tup [(.v 6), (.v 7)]) (.seq (.pr .ix [(.v 3), (.lit (.str [105, 116, 101, 109, 115]))])) f40_b1),
    (.set 8 (.tup [])),
    (.ife (.bop true [(.cmp .NotEq (.pr .ix [(.v 3), (.lit (.str [114, 101, 115, 117, 108, 116, 115]))]) (.tup [])), (.cmp .Gt (.call 24 [(.v 0), (.lit (.int 3))]) (.lit (.int 0)))]) [(.set 8 (.tup [(.call 25 [(.v 0), (.pr .ix [(.v 2), (.lit (.str [105, 110, 116, 115]))])])]))] []),
    (.ret (.tup [(.lit (.str [99, 97, 108, 108])), (.pr .ix [(.v 3), (.lit (.str [110, 97, 109, 101]))]), (.pr .tupleOf [(.v 5)]), (.v 8)]))]⟩
abbrev N40 : List Str := [("state" : Str), ("heads" : Str), ("head" : Str), ("callee" : Str), ("passed" : Str), ("given" : Str), ("kind" : Str), ("x" : Str), ("targets" : Str)]
abbrev P40 : List Str := [("state" : Str), ("heads" : Str), ("head" : Str)]
abbrev s40 : Stmt := top 46
/-- _law_wild_test -/
def f41 : Z.Fn := ⟨4, 7,
   [(.put (.v 3) (.lit (.int 0)) (.pr (.bin .Sub) [(.pr .ix [(.v 3), (.lit (.int 0))]), (.lit (.int 1))])),
    (.set 4 (.call 39 [(.v 0), (.v 1), (.v 2), (.lit (.int 1))])),
    (.set 5 (.tup [(.pr .ix [(.lst [(.lit (.str [108, 101, 115, 115])), (.lit (.str [108, 101, 115, 115])), (.lit (.str [115, 97, 109, 101]))]), (.call 24 [(.v 0), (.lit (.int 3))])]), (.v 4), (.call 39 [(.v 0), (.v 1), (.v 2), (.lit (.int 1))])])),
    (.set 6 (.call 24 [(.v 0), (.lit (.int 6))])),
    (.ife (.cmp .Eq (.v 6) (.lit (.int 0))) [(.ret (.tup [(.lit (.str [110, 111, 116])), (.v 5)]))] []),
    (.ife (.bop true [(.cmp .Eq (.v 6) (.lit (.int 1))), (.cmp .Gt (.pr .ix [(.v 3), (.lit (.int 0))]) (.lit (.int 0)))]) [(.put (.v 3) (.lit (.int 0)) (.pr (.bin .Sub) [(.pr .ix [(.v 3), (.lit (.int 0))]), (.lit (.int 1))])),
    (.ret (.tup [(.pr .ix [(.lst [(.lit (.str [97, 110, 100])), (.lit (.str [111, 114]))]), (.call 24 [(.v 0), (.lit (.int 2))])]), (.v 5), (.tup [(.lit (.str [108, 101, 115, 115])), (.v 4), (.tup [(.lit (.str [110, 117, 109, 98, 101, 114])), (.lit (.int 3))])])]))] []),
    (.ret (.v 5))]⟩
abbrev N41 : List Str := [("state" : Str), ("ints" : Str), ("arrays" : Str), ("budget" : Str), ("first" : Str), ("c" : Str), ("pick" : Str)]
abbrev P41 : List Str := [("state" : Str), ("ints" : Str), ("arrays" : Str), ("budget" : Str)]
abbrev s41 : Stmt := top 47
/-- _law_wild_statement -/
def f42 : Z.Fn := ⟨5, 13,
   [(.set 5 (.pr .ix [(.v 2), (.lit (.str [105, 110, 116, 115]))])),
    (.set 6 (.pr .ix [(.v 2), (.lit (.str [97, 114, 114, 97, 121, 115]))])),
    (.set 7 (.call 24 [(.v 0), (.lit (.int 14))])),
    (.set 8 (.call 25 [(.v 0), (.v 5)])),
    (.set 9 (.call 25 [(.v 0), (.v 6)])),
    (.ife (.cmp .Eq (.v 7) (.lit (.int 0))) [(.ret (.tup [(.lit (.str [112, 117, 115, 104])), (.call 39 [(.v 0), (.v 5), (.v 6), (.lit (.int 1))]), (.v 9)]))] []),
    (.ife (.cmp .Eq (.v 7) (.lit (.int 1))) [(.ret (.tup [(.lit (.str [115, 116, 111, 114, 101])), (.v 9), (.call 39 [(.v 0), (.v 5), (.v 6), (.lit (.int 1))]), (.call 39 [(.v 0), (.v 5), (.v 6), (.lit (.int 1))])]))] []),
    (.ife (.bop true [(.cmp .Eq (.v 7) (.lit (.int 2))), (.cmp .Gt (.pr .ix [(.v 4), (.lit (.int 0))]) (.lit (.int 0)))]) [(.put (.v 4) (.lit (.int 0)) (.pr (.bin .Sub) [(.pr .ix [(.v 4), (.lit (.int 0))]), (.lit (.int 1))])),
    (.ret (.tup [(.lit (.str [112, 111, 112])), (.v 8), (.v 9)]))] []),
    (.ife (.cmp .Eq (.v 7) (.lit (.int 3))) [(.ret (.tup [(.lit (.str [112, 97, 117, 115, 101]))]))] []),
    (.ife (.bop true [(.cmp .Lt (.v 7) (.lit (.int 6))), (.cmp .Gt (.v 3) (.lit (.int 0)))]) [(.ret (.call 40 [(.v 0), (.v 1), (.v 2)]))] []),
    (.ife (.bop true [(.cmp .Gt (.v 7) (.lit (.int 9))), (.cmp .Gt (.v 3) (.lit (.int 0))), (.cmp .Gt (.pr .ix [(.v 4), (.lit (.int 0))]) (.lit (.int 0)))]) [(.set 10 (.call 41 [(.v 0), (.v 5), (.v 6), (.v 4)])),
    (.set 11 (.call 43 [(.v 0), (.v 1), (.v 2), (.pr (.bin .Sub) [(.v 3), (.lit (.int 1))]), (.v 4)])),
    (.ife (.cmp .Eq (.v 7) (.lit (.int 10))) [(.set 12 (.tup [(.lit (.str [115, 101, 116])), (.tup [(.tup [(.v 8), (.tup [(.lit (.str [112, 108, 117, 115])), (.tup [(.lit (.str [110, 97, 109, 101])), (.v 8)]), (.tup [(.lit (.str [110, 117, 109, 98, 101, 114])), (.lit (.int 1))])])])])])),
    (.ret (.tup [(.lit (.str [119, 104, 105, 108, 101])), (.tup [(.lit (.str [108, 101, 115, 115])), (.tup [(.lit (.str [110, 97, 109, 101])), (.v 8)]), (.tup [(.lit (.str [110, 117, 109, 98, 101, 114])), (.call 24 [(.v 0), (.lit (.int 5))])])]), (.pr (.bin .Add) [(.v 11), (.tup [(.v 12)])])]))] []),
    (.ife (.cmp .Eq (.v 7) (.lit (.int 11))) [(.ret (.tup [(.lit (.str [119, 104, 105, 108, 101])), (.v 10), (.v 11)]))] []),
    (.ret (.tup [(.lit (.str [105, 102])), (.v 10), (.v 11), (.call 43 [(.v 0), (.v 1), (.v 2), (.pr (.bin .Sub) [(.v 3), (.lit (.int 1))]), (.v 4)])]))] []),
    (.ret (.tup [(.lit (.str [115, 101, 116])), (.tup [(.tup [(.v 8), (.call 39 [(.v 0), (.v 5), (.v 6), (.lit (.int 2))])])])]))]⟩
abbrev N42 : List Str := [("state" : Str), ("heads" : Str), ("head" : Str), ("depth" : Str), ("budget" : Str), ("ints" : Str), ("arrays" : Str), ("pick" : Str), ("x" : Str), ("a" : Str), ("test" : Str), ("block" : Str), ("count" : Str)]
abbrev P42 : List Str := [("state" : Str), ("heads" : Str), ("head" : Str), ("depth" : Str), ("budget" : Str)]
abbrev s42 : Stmt := top 48
def f43_c1 : Z.E := (.comp (.v 6) [6] (.rng [(.v 5)]) [] (.call 42 [(.v 0), (.v 1), (.v 2), (.v 3), (.v 4)]))
theorem f43_c1r {f : Z.Sta → Z.Res (Bool × Z.D)} {s : Z.Sta} : Z.rdArg f43_c1 f s = (f s).bind fun x s1 => .ok (.val x.2) s1 := rfl
theorem f43_c1t {P : Z.Prog} {s : Z.Sta} : Z.exec P (.ret f43_c1) s = (Z.ev P f43_c1 s).then fun x s1 => .ret x.1 x.2 s1 := by simp only [Z.exec, f43_c1]
/-- _law_wild_block -/
def f43 : Z.Fn := ⟨5, 7,
   [(.set 5 (.pr (.bin .Add) [(.lit (.int 1)), (.call 24 [(.v 0), (.lit (.int 2))])])),
    (.ret (.pr .tupleOf [f43_c1]))]⟩
abbrev N43 : List Str := [("state" : Str), ("heads" : Str), ("head" : Str), ("depth" : Str), ("budget" : Str), ("many" : Str), ("k" : Str)]
abbrev P43 : List Str := [("state" : Str), ("heads" : Str), ("head" : Str), ("depth" : Str), ("budget" : Str)]
abbrev s43 : Stmt := top 49
def f44_c1 : Z.E := (.comp (.v 2) [2] (.seq (.pr .sortedOf [(.call 27 [(.v 0), (.pr (.bin .Add) [(.lit (.int 1)), (.call 24 [(.v 0), (.lit (.int 2))])])])])) [] (.call 38 [(.v 0), (.v 2)]))
theorem f44_c1r {f : Z.Sta → Z.Res (Bool × Z.D)} {s : Z.Sta} : Z.rdArg f44_c1 f s = (f s).bind fun x s1 => .ok (.val x.2) s1 := rfl
theorem f44_c1t {P : Z.Prog} {s : Z.Sta} : Z.exec P (.ret f44_c1) s = (Z.ev P f44_c1 s).then fun x s1 => .ret x.1 x.2 s1 := by simp only [Z.exec, f44_c1]
def f44_b2 : (List Z.S) := [(.set 5 (.cell (.lst [(.lit (.int 4))]))),
    (.set 6 (.pr (.bin .Add) [(.call 43 [(.v 0), (.v 1), (.v 4), (.lit (.int 2)), (.v 5)]), (.call 43 [(.v 0), (.v 1), (.v 4), (.lit (.int 1)), (.v 5)])])),
    (.ife (.cmp .NotEq (.pr .ix [(.v 4), (.lit (.str [114, 101, 115, 117, 108, 116, 115]))]) (.tup [])) [(.set 6 (.pr (.bin .Add) [(.v 6), (.tup [(.tup [(.lit (.str [103, 105, 118, 101])), (.tup [(.call 39 [(.v 0), (.pr .ix [(.v 4), (.lit (.str [105, 110, 116, 115]))]), (.pr .ix [(.v 4), (.lit (.str [97, 114, 114, 97, 121, 115]))]), (.lit (.int 1))])])])])]))] []),
    (.set 7 (.pr .tupleOf [(.pr .ix [(.v 4), (.lit (.str [105, 116, 101, 109, 115]))])])),
    (.exp (.mu .append (.v 3) [(.tup [(.pr .ix [(.v 4), (.lit (.str [110, 97, 109, 101]))]), (.v 7), (.pr .ix [(.v 4), (.lit (.str [114, 101, 115, 117, 108, 116, 115]))]), (.pr .tupleOf [(.pr .ix [(.v 4), (.lit (.str [112, 108, 97, 99, 101, 115]))])]), (.tup []), (.tup []), (.tup []), (.tup []), (.v 6)])]))]
/-- _law_wild_core -/
def f44 : Z.Fn := ⟨1, 8,
   [(.set 1 f44_c1),
    (.set 3 (.lst [])),
    (.fr (.v 4) (.seq (.v 1)) f44_b2),
    (.ret (.pr .tupleOf [(.v 3)]))]⟩
abbrev N44 : List Str := [("state" : Str), ("heads" : Str), ("name" : Str), ("core" : Str), ("head" : Str), ("budget" : Str), ("body" : Str), ("items" : Str)]
abbrev P44 : List Str := [("state" : Str)]
abbrev s44 : Stmt := top 50
/-- _law_plainly -/
def f45 : Z.Fn := ⟨2, 7,
   [(.set 2 (.pr .ix [(.v 0), (.lit (.int 0))])),
    (.ife (.cmp .Eq (.v 2) (.lit (.str [110, 117, 109, 98, 101, 114]))) [(.ret (.tup [(.pr .ix [(.v 0), (.lit (.int 1))]), (.tup [])]))] []),
    (.ife (.cmp .In (.v 2) (.lst [(.lit (.str [110, 97, 109, 101])), (.lit (.str [108, 101, 110, 103, 116, 104]))])) [(.set 3 (.pr (.bin .Add) [(.pr (.bin .Mult) [(.lit (.str [35])), (.pr .intOf [(.pr (.cmp .Eq) [(.v 2), (.lit (.str [108, 101, 110, 103, 116, 104]))])])]), (.pr .ix [(.v 0), (.lit (.int 1))])])),
    (.ife (.cmp .In (.v 3) (.v 1)) [(.ret (.call 32 [(.v 3)]))] []),
    (.ret (.call 32 [(.pr (.bin .Add) [(.lit (.str [64])), (.v 3)])]))] []),
    (.ife (.cmp .Eq (.v 2) (.lit (.str [115, 99, 97, 108, 101]))) [(.set 4 (.call 45 [(.pr .ix [(.v 0), (.lit (.int 2))]), (.v 1)])),
    (.ife (.isN false (.v 4)) [(.ret (.lit .non))] []),
    (.ret (.call 31 [(.lst [(.tup [(.pr .ix [(.v 0), (.lit (.int 1))]), (.v 4)])])]))] []),
    (.ife (.cmp .NotIn (.v 2) (.lst [(.lit (.str [112, 108, 117, 115])), (.lit (.str [109, 105, 110, 117, 115]))])) [(.ret (.lit .non))] []),
    (.set 5 (.call 45 [(.pr .ix [(.v 0), (.lit (.int 1))]), (.v 1)])),
    (.set 6 (.call 45 [(.pr .ix [(.v 0), (.lit (.int 2))]), (.v 1)])),
    (.ife (.bop false [(.isN false (.v 5)), (.isN false (.v 6))]) [(.ret (.lit .non))] []),
    (.ret (.call 31 [(.lst [(.tup [(.lit (.int 1)), (.v 5)]), (.tup [(.pr .ix [(.lst [(.pr .neg [(.lit (.int 1))]), (.lit (.int 1))]), (.pr .intOf [(.pr (.cmp .Eq) [(.v 2), (.lit (.str [112, 108, 117, 115]))])])]), (.v 6)])])]))]⟩
abbrev N45 : List Str := [("e" : Str), ("states" : Str), ("kind" : Str), ("name" : Str), ("inner" : Str), ("left" : Str), ("right" : Str)]
abbrev P45 : List Str := [("e" : Str), ("states" : Str)]
abbrev s45 : Stmt := top 51
def f46_b1 : (List Z.S) := [(.set 1 (.pr (.bin .Add) [(.v 1), (.call 46 [(.v 2)])]))]
/-- _law_comparisons -/
def f46 : Z.Fn := ⟨1, 3,
   [(.ife (.cmp .In (.pr .ix [(.v 0), (.lit (.int 0))]) (.lst [(.lit (.str [108, 101, 115, 115])), (.lit (.str [115, 97, 109, 101]))])) [(.ret (.lst [(.v 0)]))] []),
    (.set 1 (.lst [])),
    (.fr (.v 2) (.seq (.sl (.v 0) (some (.lit (.int 1))) none)) f46_b1),
    (.ret (.v 1))]⟩
abbrev N46 : List Str := [("c" : Str), ("found" : Str), ("part" : Str)]
abbrev P46 : List Str := [("c" : Str)]
abbrev s46 : Stmt := top 52
/-- _law_both_ways -/
def f47 : Z.Fn := ⟨2, 2,
   [(.ret (.lst [(.call 31 [(.lst [(.tup [(.lit (.int 1)), (.v 0)]), (.tup [(.pr .neg [(.lit (.int 1))]), (.v 1)])])]), (.call 31 [(.lst [(.tup [(.lit (.int 1)), (.v 1)]), (.tup [(.pr .neg [(.lit (.int 1))]), (.v 0)])])])]))]⟩
abbrev N47 : List Str := [("f" : Str), ("g" : Str)]
abbrev P47 : List Str := [("f" : Str), ("g" : Str)]
abbrev s47 : Stmt := top 53
def f48_c1 : Z.E := (.comp (.v 4) [4] (.seq (.v 2)) [] (.call 32 [(.v 4)]))
theorem f48_c1r {f : Z.Sta → Z.Res (Bool × Z.D)} {s : Z.Sta} : Z.rdArg f48_c1 f s = (f s).bind fun x s1 => .ok (.val x.2) s1 := rfl
theorem f48_c1t {P : Z.Prog} {s : Z.Sta} : Z.exec P (.ret f48_c1) s = (Z.ev P f48_c1 s).then fun x s1 => .ret x.1 x.2 s1 := by simp only [Z.exec, f48_c1]
def f48_b2 : (List Z.S) := [(.ife (.cmp .In (.call 34 [(.v 5)]) (.v 1)) [(.set 3 (.pr (.bin .Add) [(.v 3), (.call 47 [(.call 32 [(.call 34 [(.v 5)])]), (.call 32 [(.pr (.bin .Add) [(.lit (.str [64])), (.call 34 [(.v 5)])])])])]))] [])]
def f48_c3 : Z.E := (.comp (.v 13) [13] (.seq (.v 12)) [] (.call 31 [(.lst [(.tup [(.lit (.int 1)), (.v 13)]), (.tup [(.pr .neg [(.lit (.int 1))]), (.tup [(.lit (.int 1)), (.tup [])])])])]))
theorem f48_c3r {f : Z.Sta → Z.Res (Bool × Z.D)} {s : Z.Sta} : Z.rdArg f48_c3 f s = (f s).bind fun x s1 => .ok (.val x.2) s1 := rfl
theorem f48_c3t {P : Z.Prog} {s : Z.Sta} : Z.exec P (.ret f48_c3) s = (Z.ev P f48_c3 s).then fun x s1 => .ret x.1 x.2 s1 := by simp only [Z.exec, f48_c3]
def f48_b4 : (List Z.S) := [(.set 10 (.call 45 [(.v 8), (.v 2)])),
    (.set 11 (.call 45 [(.v 9), (.v 2)])),
    (.ife (.bop true [(.isN true (.v 10)), (.isN true (.v 11))]) [(.set 12 (.call 47 [(.v 10), (.v 11)])),
    (.set 3 (.pr (.bin .Add) [(.pr (.bin .Add) [(.v 3), (.v 12)]), f48_c3]))] [])]
def f48_b5 : (List Z.S) := [(.ife (.cmp .In (.pr .ix [(.v 6), (.lit (.int 0))]) (.lst [(.lit (.str [105, 102])), (.lit (.str [119, 104, 105, 108, 101]))])) [(.fr (.tup [(.v 7), (.v 8), (.v 9)]) (.seq (.call 46 [(.pr .ix [(.v 6), (.lit (.int 1))])])) f48_b4)] [])]
def f48_c6 : Z.E := (.comp (.v 14) [14] (.seq (.call 33 [(.lst [(.v 10)])])) [] (.pr (.cmp .Eq) [(.pr .ix [(.v 14), (.lit (.int 0))]), (.lit (.str [64]))]))
theorem f48_c6r {f : Z.Sta → Z.Res (Bool × Z.D)} {s : Z.Sta} : Z.rdArg f48_c6 f s = (f s).bind fun x s1 => .ok (.val x.2) s1 := rfl
theorem f48_c6t {P : Z.Prog} {s : Z.Sta} : Z.exec P (.ret f48_c6) s = (Z.ev P f48_c6 s).then fun x s1 => .ret x.1 x.2 s1 := by simp only [Z.exec, f48_c6]
def f48_b7 : (List Z.S) := [(.set 10 (.call 45 [(.v 8), (.v 2)])),
    (.ife (.bop true [(.isN true (.v 10)), (.e (.pr .allOf [f48_c6])), (.e (.call 49 [(.v 8), (.v 2)]))]) [(.set 3 (.pr (.bin .Add) [(.v 3), (.call 47 [(.call 32 [(.v 4)]), (.v 10)])]))] [])]
def f48_b8 : (List Z.S) := [(.ife (.cmp .Eq (.pr .ix [(.v 6), (.lit (.int 0))]) (.lit (.str [115, 101, 116]))) [(.fr (.tup [(.v 4), (.v 8)]) (.seq (.pr .ix [(.v 6), (.lit (.int 1))])) f48_b7)] [])]
def f48_b9 : (List Z.S) := [(.ife (.bop true [(.cmp .NotEq (.pr .ix [(.v 9), (.lit (.int 1))]) (.tup [])), (.cmp .NotIn (.v 9) (.v 15))]) [(.exp (.mu .append (.v 15) [(.v 9)]))] [])]
/-- _law_due -/
def f48 : Z.Fn := ⟨2, 16,
   [(.set 2 (.call 37 [(.v 0), (.v 1)])),
    (.set 3 (.pr (.bin .Add) [(.lst [(.tup [(.pr .neg [(.lit (.int 1))]), (.tup [])])]), f48_c1])),
    (.fr (.v 5) (.seq (.pr .ix [(.v 0), (.lit (.int 1))])) f48_b2),
    (.fr (.v 6) (.seq (.call 35 [(.pr .ix [(.v 0), (.lit (.int 8))])])) f48_b5),
    (.fr (.v 6) (.seq (.call 35 [(.pr .ix [(.v 0), (.lit (.int 8))])])) f48_b8),
    (.set 15 (.lst [(.tup [(.pr .neg [(.lit (.int 1))]), (.tup [])])])),
    (.fr (.v 9) (.seq (.pr (.bin .Add) [(.v 3), (.pr .listOf [(.pr .ix [(.v 0), (.lit (.int 5))])])])) f48_b9),
    (.ret (.pr .tupleOf [(.v 15)]))]⟩
abbrev N48 : List Str := [("p" : Str), ("moved" : Str), ("states" : Str), ("found" : Str), ("x" : Str), ("item" : Str), ("s" : Str), ("kind" : Str), ("e" : Str), ("f" : Str), ("one" : Str), ("other" : Str), ("pair" : Str), ("g" : Str), ("name" : Str), ("due" : Str)]
abbrev P48 : List Str := [("p" : Str), ("moved" : Str)]
abbrev s48 : Stmt := top 54
/-- _law_steady -/
def f49 : Z.Fn := ⟨2, 2,
   [(.ife (.cmp .Eq (.pr .ix [(.v 0), (.lit (.int 0))]) (.lit (.str [110, 97, 109, 101]))) [(.ret (.pr (.cmp .NotIn) [(.pr .ix [(.v 0), (.lit (.int 1))]), (.v 1)]))] []),
    (.ife (.cmp .Eq (.pr .ix [(.v 0), (.lit (.int 0))]) (.lit (.str [108, 101, 110, 103, 116, 104]))) [(.ret (.pr (.cmp .NotIn) [(.pr (.bin .Add) [(.lit (.str [35])), (.pr .ix [(.v 0), (.lit (.int 1))])]), (.v 1)]))] []),
    (.ife (.cmp .Eq (.pr .ix [(.v 0), (.lit (.int 0))]) (.lit (.str [115, 99, 97, 108, 101]))) [(.ret (.call 49 [(.pr .ix [(.v 0), (.lit (.int 2))]), (.v 1)]))] []),
    (.ife (.cmp .In (.pr .ix [(.v 0), (.lit (.int 0))]) (.lst [(.lit (.str [112, 108, 117, 115])), (.lit (.str [109, 105, 110, 117, 115]))])) [(.ret (.bopV true [(.call 49 [(.pr .ix [(.v 0), (.lit (.int 1))]), (.v 1)]), (.call 49 [(.pr .ix [(.v 0), (.lit (.int 2))]), (.v 1)])]))] []),
    (.ret (.pr (.cmp .Eq) [(.pr .ix [(.v 0), (.lit (.int 0))]), (.lit (.str [110, 117, 109, 98, 101, 114]))]))]⟩
abbrev N49 : List Str := [("e" : Str), ("states" : Str)]
abbrev P49 : List Str := [("e" : Str), ("states" : Str)]
abbrev s49 : Stmt := top 55
def f50_c1 : Z.E := (.comp (.v 4) [4] (.seq (.pr .ix [(.v 1), (.lit (.int 1))])) [] (.pr (.bin .Add) [(.lit (.str [64])), (.call 34 [(.v 4)])]))
theorem f50_c1r {f : Z.Sta → Z.Res (Bool × Z.D)} {s : Z.Sta} : Z.rdArg f50_c1 f s = (f s).bind fun x s1 => .ok (.val x.2) s1 := rfl
theorem f50_c1t {P : Z.Prog} {s : Z.Sta} : Z.exec P (.ret f50_c1) s = (Z.ev P f50_c1 s).then fun x s1 => .ret x.1 x.2 s1 := by simp only [Z.exec, f50_c1]
def f50_c2 : Z.E := (.comp (.v 8) [8] (.seq (.v 3)) [(.cmp .Eq (.call 24 [(.v 0), (.lit (.int 3))]) (.lit (.int 0)))] (.tup [(.v 8), (.pr (.bin .Sub) [(.call 24 [(.v 0), (.lit (.int 3))]), (.lit (.int 1))])]))
theorem f50_c2r {f : Z.Sta → Z.Res (Bool × Z.D)} {s : Z.Sta} : Z.rdArg f50_c2 f s = (f s).bind fun x s1 => .ok (.val x.2) s1 := rfl
theorem f50_c2t {P : Z.Prog} {s : Z.Sta} : Z.exec P (.ret f50_c2) s = (Z.ev P f50_c2 s).then fun x s1 => .ret x.1 x.2 s1 := by simp only [Z.exec, f50_c2]
def f50_b3 : (List Z.S) := [(.set 7 (.call 30 [(.pr (.bin .Sub) [(.call 24 [(.v 0), (.lit (.int 5))]), (.lit (.int 2))]), f50_c2])),
    (.set 5 (.pr (.bin .Add) [(.v 5), (.pr (.bin .Mult) [(.lst [(.v 7)]), (.pr (.bin .Add) [(.lit (.int 1)), (.pr .intOf [(.pr (.cmp .Eq) [(.call 24 [(.v 0), (.lit (.int 4))]), (.lit (.int 0))])])])])]))]
/-- _law_hinted -/
def f50 : Z.Fn := ⟨3, 9,
   [(.set 3 (.pr (.bin .Add) [f50_c1, (.call 37 [(.v 1), (.v 2)])])),
    (.set 5 (.lst [])),
    (.fr (.v 6) (.rng [(.call 24 [(.v 0), (.lit (.int 4))])]) f50_b3),
    (.ret (.pr (.bin .Add) [(.pr (.bin .Add) [(.sl (.v 1) none (some (.lit (.int 5)))), (.tup [(.pr .tupleOf [(.v 5)])])]), (.sl (.v 1) (some (.lit (.int 6))) none)]))]⟩
abbrev N50 : List Str := [("state" : Str), ("p" : Str), ("moved" : Str), ("names" : Str), ("item" : Str), ("hints" : Str), ("turn" : Str), ("f" : Str), ("x" : Str)]
abbrev P50 : List Str := [("state" : Str), ("p" : Str), ("moved" : Str)]
abbrev s50 : Stmt := top 56
def f51_c1 : Z.E := (.comp (.v 5) [5] (.seq (.v 3)) [] (.call 50 [(.v 1), (.v 5), (.pr .ix [(.v 4), (.pr .ix [(.v 5), (.lit (.int 0))])])]))
theorem f51_c1r {f : Z.Sta → Z.Res (Bool × Z.D)} {s : Z.Sta} : Z.rdArg f51_c1 f s = (f s).bind fun x s1 => .ok (.val x.2) s1 := rfl
theorem f51_c1t {P : Z.Prog} {s : Z.Sta} : Z.exec P (.ret f51_c1) s = (Z.ev P f51_c1 s).then fun x s1 => .ret x.1 x.2 s1 := by simp only [Z.exec, f51_c1]
def f51_b2 : (List Z.S) := [(.ife (.not (.e (.call 29 [(.call 21 [(.v 3), (.pr .ix [(.v 5), (.lit (.int 0))])]), (.call 48 [(.v 5), (.pr .ix [(.v 4), (.pr .ix [(.v 5), (.lit (.int 0))])])])]))) [(.ret (.lit (.bl false)))] [])]
def f51_b3 : (List Z.S) := [(.set 3 (.call 44 [(.v 1)])),
    (.set 4 (.call 36 [(.v 3)])),
    (.set 3 (.pr .tupleOf [f51_c1])),
    (.fr (.v 5) (.seq (.v 3)) f51_b2)]
/-- law -/
def f51 : Z.Fn := ⟨1, 6,
   [(.set 1 (.call 23 [(.v 0)])),
    (.fr (.v 2) (.rng [(.lit (.int 2))]) f51_b3),
    (.ret (.lit (.bl true)))]⟩
abbrev N51 : List Str := [("script" : Str), ("state" : Str), ("turn" : Str), ("core" : Str), ("table" : Str), ("p" : Str)]
abbrev P51 : List Str := [("script" : Str)]
abbrev s51 : Stmt := top 57
def gls : List Z.D := [(.tup [(.int 0), (.tup [])]), (.tup [(.int (-1)), (.tup [])])]
def subT : List (List Bool) := []
def kdT : List (List (List Nat × Option Int)) := []
def tb : Z.Tbl := { fns := [f0, f1, f2, f3, f4, f5, f6, f7, f8, f9, f10, f11, f12, f13, f14, f15, f16, f17, f18, f19, f20, f21, f22, f23, f24, f25, f26, f27, f28, f29, f30, f31, f32, f33, f34, f35, f36, f37, f38, f39, f40, f41, f42, f43, f44, f45, f46, f47, f48, f49, f50, f51], glob := fun i => gls[i]?, init := fun _ => none, meth := fun _ _ => none, sub := fun a b => (subT.getD a []).getD b false, flds := fun _ => [], kd := fun g => kdT.getD g [] }
abbrev defTop : List Nat := [3, 4, 5, 6, 7, 9, 10, 11, 12, 13, 14, 15, 16, 17, 19, 20, 21, 22, 23, 24, 25, 26, 27, 29, 30, 31, 32, 33, 34, 35, 36, 37, 38, 39, 40, 41, 42, 43, 44, 45, 46, 47, 48, 49, 50, 51, 52, 53, 54, 55, 56, 57]
theorem c0 : Z.chkSs nm N0 (defScope s0) (defBody s0) f0.body = true := by decide +kernel
theorem o0 : Z.scopeB N0 P0 (defScope s0) = true := by decide +kernel
theorem c1 : Z.chkSs nm N1 (defScope s1) (defBody s1) f1.body = true := by decide +kernel
theorem o1 : Z.scopeB N1 P1 (defScope s1) = true := by decide +kernel
theorem c2 : Z.chkSs nm N2 (defScope s2) (defBody s2) f2.body = true := by decide +kernel
theorem o2 : Z.scopeB N2 P2 (defScope s2) = true := by decide +kernel
theorem c3 : Z.chkSs nm N3 (defScope s3) (defBody s3) f3.body = true := by decide +kernel
theorem o3 : Z.scopeB N3 P3 (defScope s3) = true := by decide +kernel
theorem c4 : Z.chkSs nm N4 (defScope s4) (defBody s4) f4.body = true := by decide +kernel
theorem o4 : Z.scopeB N4 P4 (defScope s4) = true := by decide +kernel
theorem c5 : Z.chkSs nm N5 (defScope s5) (defBody s5) f5.body = true := by decide +kernel
theorem o5 : Z.scopeB N5 P5 (defScope s5) = true := by decide +kernel
theorem c6 : Z.chkSs nm N6 (defScope s6) (defBody s6) f6.body = true := by decide +kernel
theorem o6 : Z.scopeB N6 P6 (defScope s6) = true := by decide +kernel
theorem c7 : Z.chkSs nm N7 (defScope s7) (defBody s7) f7.body = true := by decide +kernel
theorem o7 : Z.scopeB N7 P7 (defScope s7) = true := by decide +kernel
theorem c8 : Z.chkSs nm N8 (defScope s8) (defBody s8) f8.body = true := by decide +kernel
theorem o8 : Z.scopeB N8 P8 (defScope s8) = true := by decide +kernel
theorem c9 : Z.chkSs nm N9 (defScope s9) (defBody s9) f9.body = true := by decide +kernel
theorem o9 : Z.scopeB N9 P9 (defScope s9) = true := by decide +kernel
theorem c10 : Z.chkSs nm N10 (defScope s10) (defBody s10) f10.body = true := by decide +kernel
theorem o10 : Z.scopeB N10 P10 (defScope s10) = true := by decide +kernel
theorem c11 : Z.chkSs nm N11 (defScope s11) (defBody s11) f11.body = true := by decide +kernel
theorem o11 : Z.scopeB N11 P11 (defScope s11) = true := by decide +kernel
theorem c12 : Z.chkSs nm N12 (defScope s12) (defBody s12) f12.body = true := by decide +kernel
theorem o12 : Z.scopeB N12 P12 (defScope s12) = true := by decide +kernel
theorem c13 : Z.chkSs nm N13 (defScope s13) (defBody s13) f13.body = true := by decide +kernel
theorem o13 : Z.scopeB N13 P13 (defScope s13) = true := by decide +kernel
theorem c14 : Z.chkSs nm N14 (defScope s14) (defBody s14) f14.body = true := by decide +kernel
theorem o14 : Z.scopeB N14 P14 (defScope s14) = true := by decide +kernel
theorem c15 : Z.chkSs nm N15 (defScope s15) (defBody s15) f15.body = true := by decide +kernel
theorem o15 : Z.scopeB N15 P15 (defScope s15) = true := by decide +kernel
theorem c16 : Z.chkSs nm N16 (defScope s16) (defBody s16) f16.body = true := by decide +kernel
theorem o16 : Z.scopeB N16 P16 (defScope s16) = true := by decide +kernel
theorem c17 : Z.chkSs nm N17 (defScope s17) (defBody s17) f17.body = true := by decide +kernel
theorem o17 : Z.scopeB N17 P17 (defScope s17) = true := by decide +kernel
theorem c18 : Z.chkSs nm N18 (defScope s18) (defBody s18) f18.body = true := by decide +kernel
theorem o18 : Z.scopeB N18 P18 (defScope s18) = true := by decide +kernel
theorem c19 : Z.chkSs nm N19 (defScope s19) (defBody s19) f19.body = true := by decide +kernel
theorem o19 : Z.scopeB N19 P19 (defScope s19) = true := by decide +kernel
theorem c20 : Z.chkSs nm N20 (defScope s20) (defBody s20) f20.body = true := by decide +kernel
theorem o20 : Z.scopeB N20 P20 (defScope s20) = true := by decide +kernel
theorem c21 : Z.chkSs nm N21 (defScope s21) (defBody s21) f21.body = true := by decide +kernel
theorem o21 : Z.scopeB N21 P21 (defScope s21) = true := by decide +kernel
theorem c22 : Z.chkSs nm N22 (defScope s22) (defBody s22) f22.body = true := by decide +kernel
theorem o22 : Z.scopeB N22 P22 (defScope s22) = true := by decide +kernel
theorem c23 : Z.chkSs nm N23 (defScope s23) (defBody s23) f23.body = true := by decide +kernel
theorem o23 : Z.scopeB N23 P23 (defScope s23) = true := by decide +kernel
theorem c24 : Z.chkSs nm N24 (defScope s24) (defBody s24) f24.body = true := by decide +kernel
theorem o24 : Z.scopeB N24 P24 (defScope s24) = true := by decide +kernel
theorem c25 : Z.chkSs nm N25 (defScope s25) (defBody s25) f25.body = true := by decide +kernel
theorem o25 : Z.scopeB N25 P25 (defScope s25) = true := by decide +kernel
theorem c26 : Z.chkSs nm N26 (defScope s26) (defBody s26) f26.body = true := by decide +kernel
theorem o26 : Z.scopeB N26 P26 (defScope s26) = true := by decide +kernel
theorem c27 : Z.chkSs nm N27 (defScope s27) (defBody s27) f27.body = true := by decide +kernel
theorem o27 : Z.scopeB N27 P27 (defScope s27) = true := by decide +kernel
theorem c28 : Z.chkSs nm N28 (defScope s28) (defBody s28) f28.body = true := by decide +kernel
theorem o28 : Z.scopeB N28 P28 (defScope s28) = true := by decide +kernel
theorem c29 : Z.chkSs nm N29 (defScope s29) (defBody s29) f29.body = true := by decide +kernel
theorem o29 : Z.scopeB N29 P29 (defScope s29) = true := by decide +kernel
theorem c30 : Z.chkSs nm N30 (defScope s30) (defBody s30) f30.body = true := by decide +kernel
theorem o30 : Z.scopeB N30 P30 (defScope s30) = true := by decide +kernel
theorem c31 : Z.chkSs nm N31 (defScope s31) (defBody s31) f31.body = true := by decide +kernel
theorem o31 : Z.scopeB N31 P31 (defScope s31) = true := by decide +kernel
theorem c32 : Z.chkSs nm N32 (defScope s32) (defBody s32) f32.body = true := by decide +kernel
theorem o32 : Z.scopeB N32 P32 (defScope s32) = true := by decide +kernel
theorem c33 : Z.chkSs nm N33 (defScope s33) (defBody s33) f33.body = true := by decide +kernel
theorem o33 : Z.scopeB N33 P33 (defScope s33) = true := by decide +kernel
theorem c34 : Z.chkSs nm N34 (defScope s34) (defBody s34) f34.body = true := by decide +kernel
theorem o34 : Z.scopeB N34 P34 (defScope s34) = true := by decide +kernel
theorem c35 : Z.chkSs nm N35 (defScope s35) (defBody s35) f35.body = true := by decide +kernel
theorem o35 : Z.scopeB N35 P35 (defScope s35) = true := by decide +kernel
theorem c36 : Z.chkSs nm N36 (defScope s36) (defBody s36) f36.body = true := by decide +kernel
theorem o36 : Z.scopeB N36 P36 (defScope s36) = true := by decide +kernel
theorem c37 : Z.chkSs nm N37 (defScope s37) (defBody s37) f37.body = true := by decide +kernel
theorem o37 : Z.scopeB N37 P37 (defScope s37) = true := by decide +kernel
theorem c38 : Z.chkSs nm N38 (defScope s38) (defBody s38) f38.body = true := by decide +kernel
theorem o38 : Z.scopeB N38 P38 (defScope s38) = true := by decide +kernel
theorem c39 : Z.chkSs nm N39 (defScope s39) (defBody s39) f39.body = true := by decide +kernel
theorem o39 : Z.scopeB N39 P39 (defScope s39) = true := by decide +kernel
theorem c40 : Z.chkSs nm N40 (defScope s40) (defBody s40) f40.body = true := by decide +kernel
theorem o40 : Z.scopeB N40 P40 (defScope s40) = true := by decide +kernel
theorem c41 : Z.chkSs nm N41 (defScope s41) (defBody s41) f41.body = true := by decide +kernel
theorem o41 : Z.scopeB N41 P41 (defScope s41) = true := by decide +kernel
theorem c42 : Z.chkSs nm N42 (defScope s42) (defBody s42) f42.body = true := by decide +kernel
theorem o42 : Z.scopeB N42 P42 (defScope s42) = true := by decide +kernel
theorem c43 : Z.chkSs nm N43 (defScope s43) (defBody s43) f43.body = true := by decide +kernel
theorem o43 : Z.scopeB N43 P43 (defScope s43) = true := by decide +kernel
theorem c44 : Z.chkSs nm N44 (defScope s44) (defBody s44) f44.body = true := by decide +kernel
theorem o44 : Z.scopeB N44 P44 (defScope s44) = true := by decide +kernel
theorem c45 : Z.chkSs nm N45 (defScope s45) (defBody s45) f45.body = true := by decide +kernel
theorem o45 : Z.scopeB N45 P45 (defScope s45) = true := by decide +kernel
theorem c46 : Z.chkSs nm N46 (defScope s46) (defBody s46) f46.body = true := by decide +kernel
theorem o46 : Z.scopeB N46 P46 (defScope s46) = true := by decide +kernel
theorem c47 : Z.chkSs nm N47 (defScope s47) (defBody s47) f47.body = true := by decide +kernel
theorem o47 : Z.scopeB N47 P47 (defScope s47) = true := by decide +kernel
theorem c48 : Z.chkSs nm N48 (defScope s48) (defBody s48) f48.body = true := by decide +kernel
theorem o48 : Z.scopeB N48 P48 (defScope s48) = true := by decide +kernel
theorem c49 : Z.chkSs nm N49 (defScope s49) (defBody s49) f49.body = true := by decide +kernel
theorem o49 : Z.scopeB N49 P49 (defScope s49) = true := by decide +kernel
theorem c50 : Z.chkSs nm N50 (defScope s50) (defBody s50) f50.body = true := by decide +kernel
theorem o50 : Z.scopeB N50 P50 (defScope s50) = true := by decide +kernel
theorem c51 : Z.chkSs nm N51 (defScope s51) (defBody s51) f51.body = true := by decide +kernel
theorem o51 : Z.scopeB N51 P51 (defScope s51) = true := by decide +kernel
end K62

set_option Elab.async false
set_option linter.all false
set_option maxRecDepth 100000
set_option maxHeartbeats 1000000
set_option autoImplicit false
/-! k59: names of procedures, walked. -/
namespace K62
open Z Co
local macro_rules
  | `(tactic| simp! [$ts,*]) => `(tactic| simp [plains, deeps, D.fit, D.plain, D.deep, lim_ble, lim_blt, cut_fromI, cut_toI, ex_set, ex_setT, ex_aug, ex_put, ex_retv, rt_lit, rt_g, rt_pr, rt_sl, rt_mp, rt_mu, rt_tup, rt_lst, rt_call, rt_callv, rt_notV, rt_bopV, rt_ite, rt_cell, rt_kin, rt_kix, rt_comp, rt_dct, ex_retN, ex_ife, ex_brk, ex_cnt, ex_pass, ex_exp, ex_rais, exs_nil, exs_cons, call_eq, glob_eq, kd_eq, atI_zero, atI_1, atI_2, atI_3, atI_4, atI_5, atI_8, wipeZ, backZ, appendC, extendC, popC, insertC, rd_v, rp_v, rp_pr, rd_lit, rd_g, rd_pr, rd_sl, rd_mp, rd_mu, rd_tup, rd_lst, rd_call, rd_callv, rd_notV, rd_bopV, rd_ite, rd_cell, rd_kin, rd_kix, rd_comp, rd_dct, rd_fn, ev, evs, evo, evrs, evt, evtb, evts, evit, evb, readV, Place.get, Place.set, Arg.get, getAll, Res.bind, Res.then, RS.seq, lift, prim, prim1, prim2, binD, cmpD, ix_lst, ix_tup, ix_str, ix_dct, slD, lenP, lenD, intD, negD, bindTo, assign, assigns, fin, der_non, der_bl, der_int, der_str, der_tup, der_lst, der_dct, der_ref, der_scr, der_fn, gc, fit_str, fit_int, D.eqv, truthD, Cell.view, isList, mutC, mrecv, mprim, mprim2, mprim3, augD, toCell, Option.bind, fromF, isiP, isiD, tupleD, listD, seqOf, noX, iterD, isSh, pix0, pix1, pix2, pix3, pix5, pix8, pder, iix0, iix1, ider, sder, eix0, kind_ne, eder, aix0, aix0e, aix1, ader, cder, $ts,*])
def stB (S : List Cell) (d : D) (j : Slot × Slot) (acc : List St) : Sta := ⟨[.sh d, .own (.L (acc.map St.toD)), j.1, j.2], S⟩
theorem sts_body (k n : Nat) (S : List Cell) (d : D) (ih : ∀ b, hgts b + 1 ≤ n → (flat b).length ≤ LIM → Phi tb (k + n) 5 [.tup (b.map St.toD)] S = .ok true (.lst ((flat b).map St.toD)) S) (j : Slot × Slot) (acc : List St) (x : St) (hx : hgt x ≤ n) (hl : acc.length + (x :: sub x).length ≤ LIM) :
    ∃ j', fbody (prog tb (k + n)) (.v 2) f5_b2 x.toD (stB S d j acc) = .next (stB S d j' (acc ++ (x :: sub x))) := by
  simp only [List.length_cons] at hl
  have h0 : acc.length < LIM := by omega
  cases x with
  | whl c b =>
    simp only [hgt, sub] at hx hl
    have e := ih b (by omega) (by omega)
    refine ⟨(.sh (St.whl c b).toD, .sh (.tup (b.map St.toD))), ?_⟩
    have h1 : acc.length + 1 + (flat b).length ≤ LIM := by omega
    simp! [inD, memD, List.any, stB, fbody, f5_b2, f5_b1, St.toD, stsD_map, e, h0, h1, exec, forL, sub]
  | ite c b b2 =>
    simp only [hgt, sub, List.length_append] at hx hl
    have e := ih b (by omega) (by omega)
    have e2 := ih b2 (by omega) (by omega)
    refine ⟨(.sh (St.ite c b b2).toD, .sh (.tup (b2.map St.toD))), ?_⟩
    have h1 : acc.length + 1 + (flat b).length ≤ LIM := by omega
    have h2 : acc.length + 1 + (flat b).length + (flat b2).length ≤ LIM := by omega
    have h3 : acc.length + (1 + (flat b).length) + (flat b2).length ≤ LIM := by omega
    have h4 : acc.length + ((flat b).length + 1) + (flat b2).length ≤ LIM := by omega
    simp! [inD, memD, List.any, stB, fbody, f5_b2, f5_b1, St.toD, stsD_map, e, e2, h0, h1, h2, h3, h4, exec, forL, sub]
  | set y e => exact ⟨(.sh (St.set y e).toD, j.2), by simp! [inD, memD, List.any, stB, fbody, f5_b2, St.toD, h0, sub]⟩
  | store y e f => exact ⟨(.sh (St.store y e f).toD, j.2), by simp! [inD, memD, List.any, stB, fbody, f5_b2, St.toD, h0, sub]⟩
  | push y e => exact ⟨(.sh (St.push y e).toD, j.2), by simp! [inD, memD, List.any, stB, fbody, f5_b2, St.toD, h0, sub]⟩
  | pop y e => exact ⟨(.sh (St.pop y e).toD, j.2), by simp! [inD, memD, List.any, stB, fbody, f5_b2, St.toD, h0, sub]⟩
  | pause => exact ⟨(.sh St.pause.toD, j.2), by simp! [inD, memD, List.any, stB, fbody, f5_b2, St.toD, h0, sub]⟩
  | call y e f => exact ⟨(.sh (St.call y e f).toD, j.2), by simp! [inD, memD, List.any, stB, fbody, f5_b2, St.toD, h0, sub]⟩
  | give e => exact ⟨(.sh (St.give e).toD, j.2), by simp! [inD, memD, List.any, stB, fbody, f5_b2, St.toD, h0, sub]⟩
theorem sts_ok : ∀ (n k : Nat) (b : List St) (S : List Cell), hgts b ≤ n → (flat b).length ≤ LIM → Phi tb (k + n + 1) 5 [.tup (b.map St.toD)] S = .ok true (.lst ((flat b).map St.toD)) S
  | n, k, b, S, hb, hl => by
    have ih : ∀ b, hgts b + 1 ≤ n → (flat b).length ≤ LIM → Phi tb (k + n) 5 [.tup (b.map St.toD)] S = .ok true (.lst ((flat b).map St.toD)) S := fun b' h1 h2 => by
      match n, h1 with
      | n + 1, h1 => exact sts_ok n k b' S (by omega) h2
    obtain ⟨j, hloop⟩ := forL_appJ (body := fbody (prog tb (k + n)) (.v 2) f5_b2) (toD := St.toD) (st := stB S (.tup (b.map St.toD))) (f := fun s => s :: sub s) LIM b [] (.no, .no) (by rw [← flat_map]; simpa using hl) fun j acc x hx h => sts_body k n S _ ih j acc x (Nat.le_trans (hgt_mem hx) hb) h
    rw [← flat_map, List.nil_append] at hloop
    rw [phi_succ (fn := f5) rfl rfl (by decide)]
    show fin S.length (execs (prog tb (k + n)) f5.body ⟨[.sh (.tup (b.map St.toD)), .no, .no, .no], S⟩) = _
    unfold f5
    refine fin_seq (s1 := stB S (.tup (b.map St.toD)) (.no, .no) []) (by simp! [stB]) ?_
    refine fin_seq (s1 := stB S (.tup (b.map St.toD)) j (flat b)) (fr_go (s1 := stB S (.tup (b.map St.toD)) (.no, .no) []) (by simp! [stB]) hloop) ?_
    simp! [stB]
theorem sts (k : Nat) {c : List Proc} {p : Proc} (g : GProc c p) (S : List Cell) : Phi tb (k + 3) 5 [.tup (p.body.map St.toD)] S = .ok true (.lst ((flat p.body).map St.toD)) S :=
  sts_ok 2 k p.body S g.hg (Nat.le_trans g.ln (by decide))
theorem proc_named (k : Nat) {c : List Proc} (G : GCore c) {q : Proc} (h : q ∈ c) (S : List Cell) : Phi tb (k + 1) 6 [coreD c, .str q.name] S = .ok false q.toD S := by
  rw [phi_succ (fn := f6) rfl rfl (by decide)]
  have hc : ev (prog tb k) f6_c1 ⟨[.sh (coreD c), .sh (.str q.name), .no], S⟩ = .ok (true, .lst [q.toD]) ⟨[.sh (coreD c), .sh (.str q.name), .no], S⟩ := by
    unfold f6_c1
    refine (ev_compF (σ1 := [.sh (coreD c), .sh (.str q.name), .no]) (S1 := S) c Proc.toD (fun p => decide (p.name = q.name)) Proc.toD rfl (by simp! [coreD]) (Nat.le_trans G.len (by decide)) fun p hp => ?_).trans ?_
    · by_cases hq : p.name = q.name
      · simp! [cturn, Proc.toD, hq]
      · simp! [cturn, Proc.toD, hq]
    · rw [filter_name G.nd h]
      rfl
  have he : ∀ d : D, atI [d] 0 = some d := fun d => rfl
  simp! [f6, f6_c1r, hc, he]
def asg : St → List Wd
  | .set x _ => [x]
  | .pop x a => [x, 35 :: a]
  | .push _ a => [35 :: a]
  | .call _ _ ts => ts
  | _ => []
theorem asg_len {c : List Proc} {p : Proc} {s : St} (g : GSt c p s) : (asg s).length ≤ 9 := by
  cases s <;> simp [asg]
  exact g.2.2
theorem asgs_len {l : List St} (h : ∀ s ∈ l, (asg s).length ≤ 9) : (l.flatMap asg).length ≤ 9 * l.length := by
  induction l with
  | nil => simp
  | cons x l ih =>
    have := ih fun s hs => h s (List.mem_cons_of_mem _ hs)
    have := h x List.mem_cons_self
    simp only [List.flatMap_cons, List.length_append, List.length_cons]
    omega
theorem fit_lit {x : List Nat} : (D.str x).fit = true := fit_str x
def stA (S : List Cell) (d : D) (j : Slot) (acc : List Wd) : Sta := ⟨[.sh d, .own (.L (acc.map .str)), j, .no, .no], S⟩
theorem asg_body (k : Nat) {c : List Proc} {p : Proc} (g : GProc c p) (S : List Cell) (d : D) (j : Slot) (acc : List Wd) (x : St) (hg : GSt c p x) (hl : acc.length + (asg x).length ≤ LIM) :
    ∃ j', fbody (prog tb k) (.v 2) f7_b2 x.toD (stA S d j acc) = .next (stA S d j' (acc ++ asg x)) := by
  cases x with
  | set y e =>
    refine ⟨.sh (St.set y e).toD, ?_⟩
    have hc : ev (prog tb k) f7_c1 ⟨[.sh d, .own (.L (acc.map .str)), .sh (St.set y e).toD, .no, .no], S⟩ = .ok (true, .lst [.str y]) ⟨[.sh d, .own (.L (acc.map .str)), .sh (St.set y e).toD, .no, .no], S⟩ := by
      unfold f7_c1
      exact ev_compM [()] (fun _ => .tup [.str y, e.toD]) (fun _ => .str y) rfl (by simp! [St.toD]) (by decide) (fun _ _ => by simp! [cturn])
    simp only [St.toD] at hc
    have h1 : acc.length + 1 ≤ LIM := hl
    simp! [stA, fbody, f7_b2, St.toD, hc, h1, asg]
  | store y e f => exact ⟨.sh (St.store y e f).toD, by simp! [stA, fbody, f7_b2, St.toD, asg]⟩
  | push e y =>
    have hy := arrs_len g hg
    have h1 : 1 + y.length ≤ LIM := Nat.le_trans (Nat.add_le_add_left hy 1) (by decide)
    have h2 : y.length + 1 ≤ LIM := by omega
    have h3 : acc.length < LIM := hl
    exact ⟨.sh (St.push e y).toD, by simp! [stA, fbody, f7_b2, St.toD, asg, h1, h2, h3]⟩
  | pop z y =>
    have hy := arrs_len g hg.2
    have h1 : 1 + y.length ≤ LIM := Nat.le_trans (Nat.add_le_add_left hy 1) (by decide)
    have h2 : y.length + 1 ≤ LIM := by omega
    have h3 : acc.length + 2 ≤ LIM := hl
    exact ⟨.sh (St.pop z y).toD, by simp! [stA, fbody, f7_b2, St.toD, asg, h1, h2, h3]⟩
  | pause => exact ⟨.sh St.pause.toD, by simp! [stA, fbody, f7_b2, St.toD, asg]⟩
  | call f as ts =>
    have h3 : acc.length + ts.length ≤ LIM := hl
    exact ⟨.sh (St.call f as ts).toD, by simp! [stA, fbody, f7_b2, St.toD, asg, h3, sD]⟩
  | whl cc b => exact ⟨.sh (St.whl cc b).toD, by simp! [stA, fbody, f7_b2, St.toD, asg]⟩
  | ite cc b b2 => exact ⟨.sh (St.ite cc b b2).toD, by simp! [stA, fbody, f7_b2, St.toD, asg]⟩
  | give e => exact ⟨.sh (St.give e).toD, by simp! [stA, fbody, f7_b2, St.toD, asg]⟩
theorem asgs_lim {c : List Proc} {p : Proc} (g : GProc c p) : ((flat p.body).flatMap asg).length ≤ LIM := by
  have h1 := asgs_len (l := flat p.body) fun s hs => asg_len (g.st s hs)
  have h2 := g.ln
  exact Nat.le_trans (show _ ≤ 9 * 999 by omega) (by decide)
theorem assigned_in (k : Nat) {c : List Proc} {p : Proc} (g : GProc c p) (S : List Cell) : Phi tb (k + 4) 7 [p.toD] S = .ok true (.lst (((flat p.body).flatMap asg).map .str)) S := by
  obtain ⟨j, hloop⟩ := forL_appJ (body := fbody (prog tb (k + 3)) (.v 2) f7_b2) (toD := St.toD) (st := stA S p.toD) (f := asg) LIM (flat p.body) [] .no (by simpa using asgs_lim g) fun j acc x hx h => asg_body (k + 3) g S _ j acc x (g.st x hx) h
  have e := sts k g S
  rw [phi_succ (fn := f7) rfl rfl (by decide)]
  show fin S.length (execs (prog tb (k + 3)) f7.body ⟨[.sh p.toD, .no, .no, .no, .no], S⟩) = _
  unfold f7
  refine fin_seq (s1 := stA S p.toD .no []) (by simp! [stA]) ?_
  refine fin_seq (s1 := stA S p.toD j ((flat p.body).flatMap asg)) (fr_go (s1 := stA S p.toD .no []) (by simp! [stA, Proc.toD, e]) hloop) ?_
  simp! [stA]
end K62

set_option Elab.async false
set_option linter.all false
set_option maxRecDepth 100000
set_option maxHeartbeats 1000000
set_option autoImplicit false
/-! k59: the table of what moves. -/
namespace K62
open Z Co
local macro_rules
  | `(tactic| simp! [$ts,*]) => `(tactic| simp [plains, deeps, D.fit, D.plain, D.deep, lim_ble, lim_blt, cut_fromI, cut_toI, ex_set, ex_setT, ex_aug, ex_put, ex_retv, rt_lit, rt_g, rt_pr, rt_sl, rt_mp, rt_mu, rt_tup, rt_lst, rt_call, rt_callv, rt_notV, rt_bopV, rt_ite, rt_cell, rt_kin, rt_kix, rt_comp, rt_dct, ex_retN, ex_ife, ex_brk, ex_cnt, ex_pass, ex_exp, ex_rais, exs_nil, exs_cons, call_eq, glob_eq, kd_eq, atI_zero, atI_1, atI_2, atI_3, atI_4, atI_5, atI_8, wipeZ, backZ, appendC, extendC, popC, insertC, rd_v, rp_v, rp_pr, rd_lit, rd_g, rd_pr, rd_sl, rd_mp, rd_mu, rd_tup, rd_lst, rd_call, rd_callv, rd_notV, rd_bopV, rd_ite, rd_cell, rd_kin, rd_kix, rd_comp, rd_dct, rd_fn, ev, evs, evo, evrs, evt, evtb, evts, evit, evb, readV, Place.get, Place.set, Arg.get, getAll, Res.bind, Res.then, RS.seq, lift, prim, prim1, prim2, binD, cmpD, ix_lst, ix_tup, ix_str, ix_dct, slD, lenP, lenD, intD, negD, bindTo, assign, assigns, fin, der_non, der_bl, der_int, der_str, der_tup, der_lst, der_dct, der_ref, der_scr, der_fn, gc, fit_str, fit_int, D.eqv, truthD, Cell.view, isList, mutC, mrecv, mprim, mprim2, mprim3, augD, toCell, Option.bind, fromF, isiP, isiD, tupleD, listD, seqOf, noX, iterD, isSh, pix0, pix1, pix2, pix3, pix5, pix8, pder, iix0, iix1, ider, sder, eix0, kind_ne, eder, aix0, aix0e, aix1, ader, cder, $ts,*])
variable {c : List Proc} {T : Tab} {S0 : List Cell}
abbrev tabD (c : List Proc) (n0 : Nat) : D := .dct (namesD c) (refsD n0 c.length)
theorem hand1_len (pre : Wd) (t : List Wd) (z : Itm × Ag) : (hand1 pre t z).length ≤ 1 := by
  unfold hand1
  split
  · split <;> simp
  · simp
theorem handed_len (pre : Wd) (t : List Wd) (is : List Itm) (as : List Ag) : (handed pre t is as).length ≤ is.length := by
  have gen : ∀ l : List (Itm × Ag), (l.flatMap (hand1 pre t)).length ≤ l.length := by
    intro l
    induction l with
    | nil => simp
    | cons a l ih =>
      have := hand1_len pre t a
      simp only [List.flatMap_cons, List.length_append, List.length_cons]
      omega
  have := gen (is.zip as)
  have h2 : (is.zip as).length ≤ is.length := by rw [List.length_zip]; omega
  unfold handed
  omega
theorem handS_len (G : GCore c) (pre : Wd) (s : St) : (handS pre c T s).length ≤ 3 := by
  cases s with
  | call f as ts =>
    have := handed_len pre (tat c T f) (itemsOf c f) as
    have h2 : (itemsOf c f).length ≤ 3 := by
      unfold itemsOf
      cases e : procOf c f with
      | none => simp
      | some q =>
        have : q ∈ c := by
          clear G this
          induction c with
          | nil => cases e
          | cons r c ih =>
            simp only [procOf] at e
            split at e
            · cases e; exact List.mem_cons_self
            · exact List.mem_cons_of_mem _ (ih e)
        exact (G.ps q this).il
    simp only [handS]
    omega
  | _ => simp [handS]
theorem handP_len (G : GCore c) (pre : Wd) {p : Proc} (hp : p ∈ c) : (handP pre c T p).length ≤ 2997 := by
  have gen : ∀ l : List St, (l.flatMap (handS pre c T)).length ≤ 3 * l.length := by
    intro l
    induction l with
    | nil => simp
    | cons a l ih =>
      have := handS_len (T := T) G pre a
      simp only [List.flatMap_cons, List.length_append, List.length_cons]
      omega
  have := gen (flat p.body)
  have := (G.ps p hp).ln
  unfold handP
  omega
/-- the inner loop: one call -/
def stI (d : D) (p : Proc) (s : St) (q : Proc) (S : List Cell) (j : Slot × Slot) (acc : List Wd) (n0 : Nat) (c : List Proc) : Sta := ⟨[.sh (coreD c), .sh (tabD c n0), .sh d, .own (.L (acc.map .str)), .sh s.toD, .sh (.tup (q.items.map Itm.toD)), j.1, j.2], S⟩
theorem lim_add1 {n : Nat} (h : n ≤ 99) : 1 + n ≤ LIM := Nat.le_trans (Nat.add_le_add_left h 1) (by decide)
theorem lim_lt {n : Nat} (h : n ≤ 9999) : n < LIM := Nat.lt_of_le_of_lt h (by decide)
theorem lim_le {n : Nat} (h : n ≤ 9999) : n ≤ LIM := Nat.le_trans h (by decide)
theorem pass_in (k : Nat) (G : GCore c) (hT : T.length = c.length) {p q : Proc} (hq : q ∈ c) {as : List Ag} {ts : List Wd} (hf : fits q.items as) (hx : ∀ x, Ag.arr x ∈ as → x.length ≤ 99) (d : D) (acc : List Wd) (j : Slot × Slot) (hl : acc.length ≤ 3000) :
    ∃ j', forL (fbody (prog tb k) (.tup [(.v 6), (.v 7)]) f8_b1) ((q.items.zip as).map fun z => .tup [z.1.toD, z.2.toD]) (stI d p (.call q.name as ts) q (S0 ++ tabC T) j acc S0.length c) = .next (stI d p (.call q.name as ts) q (S0 ++ tabC T) j' (acc ++ handed [35] (tat c T q.name) q.items as) S0.length c) := by
  have hlen := handed_len [35] (tat c T q.name) q.items as
  have hil := (G.ps q hq).il
  refine forL_appJ (st := fun j acc => stI d p (.call q.name as ts) q (S0 ++ tabC T) j acc S0.length c) (f := hand1 [35] (tat c T q.name)) 3003 (q.items.zip as) acc j (by unfold handed at hlen; omega) fun j acc z hz hl => ?_
  have lk := lookD_refs S0.length hq
  have ca := cell_at (S0 := S0) hT hq
  have ha : acc.length < LIM := lim_lt (by omega)
  rcases fits_zip hf hz with ⟨x, h1, h2⟩ | ⟨e, h1, h2⟩
  · obtain ⟨i, a⟩ := z
    simp only at h1 h2
    subst h1
    refine ⟨(.sh i.toD, .sh (Ag.arr x).toD), ?_⟩
    have b1 := lim_add1 ((G.ps q hq).ix i (List.of_mem_zip hz).1)
    have b2 := lim_add1 (hx x (List.of_mem_zip hz).2)
    by_cases hm : 35 :: i.x ∈ tat c T q.name
    · simp! [stI, fbody, f8_b1, Itm.toD, Ag.toD, St.toD, h2, b1, b2, lk, ca, in_strs, hand1, hm, ha, keyOk]
    · simp! [stI, fbody, f8_b1, Itm.toD, Ag.toD, St.toD, h2, b1, b2, lk, ca, in_strs, hand1, hm, ha, keyOk]
  · obtain ⟨i, a⟩ := z
    simp only at h1 h2
    subst h1
    exact ⟨(.sh i.toD, .sh (Ag.ex e).toD), by simp! [stI, fbody, f8_b1, Itm.toD, h2, hand1]⟩
/-- passed_on: the loop over the statements -/
def stO (d : D) (S : List Cell) (j : Slot × Slot × Slot × Slot) (acc : List Wd) (n0 : Nat) (c : List Proc) : Sta := ⟨[.sh (coreD c), .sh (tabD c n0), .sh d, .own (.L (acc.map .str)), j.1, j.2.1, j.2.2.1, j.2.2.2], S⟩
theorem argsIn_len (G : GCore c) {p : Proc} (hp : p ∈ c) {as : List Ag} (h : argsIn (arrs p) as) {x : Wd} (hx : Ag.arr x ∈ as) : x.length ≤ 99 := arrs_len (G.ps p hp) (argsIn_mem h hx)
theorem pass_body (k : Nat) (G : GCore c) (hT : T.length = c.length) {p : Proc} (hp : p ∈ c) (d : D) (j : Slot × Slot × Slot × Slot) (acc : List Wd) (s : St) (hs : s ∈ flat p.body) (hl : acc.length + (handS [35] c T s).length ≤ 3000) :
    ∃ j', fbody (prog tb (k + 1)) (.v 4) f8_b2 s.toD (stO d (S0 ++ tabC T) j acc S0.length c) = .next (stO d (S0 ++ tabC T) j' (acc ++ handS [35] c T s) S0.length c) := by
  cases s with
  | call f as ts =>
    obtain ⟨⟨q, hq, rfl, hf⟩, ha, _⟩ := (G.ps p hp).st _ hs
    obtain ⟨j', hloop⟩ := pass_in (k + 1) (S0 := S0) G hT (p := p) hq (ts := ts) hf (fun x hx => argsIn_len G hp ha hx) d acc (j.2.2.1, j.2.2.2) (by omega)
    have e := proc_named k G hq (S0 ++ tabC T)
    refine ⟨(.sh (St.call q.name as ts).toD, .sh (.tup (q.items.map Itm.toD)), j'.1, j'.2), ?_⟩
    simp only [handS, itemsOf_mem G.nd hq]
    refine fbody_v (by simp) ?_
    unfold f8_b2
    refine one_ret.trans (exec_if_true (s1 := ⟨[.sh (coreD c), .sh (tabD c S0.length), .sh d, .own (.L (acc.map .str)), .sh (St.call q.name as ts).toD, j.2.1, j.2.2.1, j.2.2.2], S0 ++ tabC T⟩) (by simp! [stO, St.toD]) ?_)
    refine seq_go (s1 := stI d p (.call q.name as ts) q (S0 ++ tabC T) (j.2.2.1, j.2.2.2) acc S0.length c) (by simp! [stI, St.toD, e, Proc.toD]) ?_
    refine seq_end (fr_go (s1 := stI d p (.call q.name as ts) q (S0 ++ tabC T) (j.2.2.1, j.2.2.2) acc S0.length c) ?_ hloop)
    simp! [stI, St.toD, zipD_map]
  | set y e => exact ⟨(.sh (St.set y e).toD, j.2), by simp! [stO, fbody, f8_b2, St.toD, handS]⟩
  | store y e f => exact ⟨(.sh (St.store y e f).toD, j.2), by simp! [stO, fbody, f8_b2, St.toD, handS]⟩
  | push y e => exact ⟨(.sh (St.push y e).toD, j.2), by simp! [stO, fbody, f8_b2, St.toD, handS]⟩
  | pop y e => exact ⟨(.sh (St.pop y e).toD, j.2), by simp! [stO, fbody, f8_b2, St.toD, handS]⟩
  | pause => exact ⟨(.sh St.pause.toD, j.2), by simp! [stO, fbody, f8_b2, St.toD, handS]⟩
  | whl y e => exact ⟨(.sh (St.whl y e).toD, j.2), by simp! [stO, fbody, f8_b2, St.toD, handS]⟩
  | ite y e f => exact ⟨(.sh (St.ite y e f).toD, j.2), by simp! [stO, fbody, f8_b2, St.toD, handS]⟩
  | give e => exact ⟨(.sh (St.give e).toD, j.2), by simp! [stO, fbody, f8_b2, St.toD, handS]⟩
theorem passed_on (k : Nat) (G : GCore c) (hT : T.length = c.length) {p : Proc} (hp : p ∈ c) : Phi tb (k + 4) 8 [coreD c, tabD c S0.length, p.toD] (S0 ++ tabC T) = .ok true (.lst ((handP [35] c T p).map .str)) (S0 ++ tabC T) := by
  have hlen := handP_len (T := T) G [35] hp
  obtain ⟨j, hloop⟩ := forL_appJ (body := fbody (prog tb (k + 3)) (.v 4) f8_b2) (toD := St.toD) (st := fun j acc => stO p.toD (S0 ++ tabC T) j acc S0.length c) (f := handS [35] c T) 3000 (flat p.body) [] (.no, .no, .no, .no) (by unfold handP at hlen; simp only [List.length_nil]; omega) fun j acc x hx h => pass_body (k + 2) G hT hp _ j acc x hx h
  have e := sts k (G.ps p hp) (S0 ++ tabC T)
  rw [phi_succ (fn := f8) rfl rfl (by decide)]
  show fin (S0 ++ tabC T).length (execs (prog tb (k + 3)) f8.body ⟨[.sh (coreD c), .sh (tabD c S0.length), .sh p.toD, .no, .no, .no, .no, .no], S0 ++ tabC T⟩) = _
  unfold f8
  refine fin_seq (s1 := stO p.toD (S0 ++ tabC T) (.no, .no, .no, .no) [] S0.length c) (by simp! [stO]) ?_
  refine fin_seq (s1 := stO p.toD (S0 ++ tabC T) j (handP [35] c T p) S0.length c) (fr_go (s1 := stO p.toD (S0 ++ tabC T) (.no, .no, .no, .no) [] S0.length c) (by simp! [stO, Proc.toD, e]) hloop) ?_
  simp! [stO]
end K62

set_option Elab.async false
set_option linter.all false
set_option maxRecDepth 100000
set_option maxHeartbeats 1000000
set_option autoImplicit false
/-! k59: moving_table. -/
namespace K62
open Z Co
local macro_rules
  | `(tactic| simp! [$ts,*]) => `(tactic| simp [plains, deeps, D.fit, D.plain, D.deep, lim_ble, lim_blt, cut_fromI, cut_toI, ex_set, ex_setT, ex_aug, ex_put, ex_retv, rt_lit, rt_g, rt_pr, rt_sl, rt_mp, rt_mu, rt_tup, rt_lst, rt_call, rt_callv, rt_notV, rt_bopV, rt_ite, rt_cell, rt_kin, rt_kix, rt_comp, rt_dct, ex_retN, ex_ife, ex_brk, ex_cnt, ex_pass, ex_exp, ex_rais, exs_nil, exs_cons, call_eq, glob_eq, kd_eq, atI_zero, atI_1, atI_2, atI_3, atI_4, atI_5, atI_8, wipeZ, backZ, appendC, extendC, popC, insertC, rd_v, rp_v, rp_pr, rd_lit, rd_g, rd_pr, rd_sl, rd_mp, rd_mu, rd_tup, rd_lst, rd_call, rd_callv, rd_notV, rd_bopV, rd_ite, rd_cell, rd_kin, rd_kix, rd_comp, rd_dct, rd_fn, ev, evs, evo, evrs, evt, evtb, evts, evit, evb, readV, Place.get, Place.set, Arg.get, getAll, Res.bind, Res.then, RS.seq, lift, prim, prim1, prim2, binD, cmpD, ix_lst, ix_tup, ix_str, ix_dct, slD, lenP, lenD, intD, negD, bindTo, assign, assigns, fin, der_non, der_bl, der_int, der_str, der_tup, der_lst, der_dct, der_ref, der_scr, der_fn, gc, fit_str, fit_int, D.eqv, truthD, Cell.view, isList, mutC, mrecv, mprim, mprim2, mprim3, augD, toCell, Option.bind, fromF, isiP, isiD, tupleD, listD, seqOf, noX, iterD, isSh, pix0, pix1, pix2, pix3, pix5, pix8, pder, iix0, iix1, ider, sder, eix0, kind_ne, eder, aix0, aix0e, aix1, ader, cder, $ts,*])
variable {c : List Proc} {T T0 : Tab} {S0 : List Cell}
def stN (c : List Proc) (S0 : List Cell) (p : Proc) (g : Bool) (T : Tab) (j : Slot) : Sta := ⟨[.sh (coreD c), .sh (tabD c S0.length), .sh p.toD, .sh (.bl g), j], S0 ++ tabC T⟩
theorem mt_inner (k : Nat) (G : GCore c) {p : Proc} (hp : p ∈ c) {T1 : Tab} {g1 : Bool} (P1 : Pas [35] asg c T0 T1 g1) (xs : List Wd) (hxs : ∀ x ∈ xs, Der [35] asg c p x ∧ x ∈ uni [35] p) (j : Slot) :
    ∃ T g j', forL (fbody (prog tb k) (.v 4) f9_b2) (xs.map .str) (stN c S0 p g1 T1 j) = .next (stN c S0 p g T j') ∧ Pas [35] asg c T0 T g ∧ (g = false → g1 = false ∧ ∀ x ∈ xs, x ∈ tat c T0 p.name) := by
  obtain ⟨s', h1, T, g, j', rfl, h2, h3⟩ := forL_inv (body := fbody (prog tb k) (.v 4) f9_b2) (toD := D.str) (fun done s => ∃ T g j', s = stN c S0 p g T j' ∧ Pas [35] asg c T0 T g ∧ (g = false → g1 = false ∧ ∀ x ∈ done, x ∈ tat c T0 p.name)) xs [] (stN c S0 p g1 T1 j)
    ⟨T1, g1, j, rfl, P1, fun e => ⟨e, by simp⟩⟩ (fun done x s hx ⟨T, g, j', e, h2, h3⟩ => by
      subst e
      have lk := lookD_refs S0.length hp
      have ca := cell_at (S0 := S0) h2.inv.len hp
      have cs := cell_set (c := c) (S0 := S0) (T := T) (q := p) (tat c T p.name ++ [x])
      have hb := h2.bd p hp
      have ha : (tat c T p.name).length < LIM := lim_lt (by omega)
      by_cases hm : x ∈ tat c T p.name
      · refine ⟨_, ?_, T, g, .sh (.str x), rfl, h2, fun e => ⟨(h3 e).1, fun y hy => ?_⟩⟩
        · simp! [stN, fbody, f9_b2, Proc.toD, lk, ca, in_strs, hm, keyOk]
        · rcases List.mem_append.mp hy with hy | hy
          · exact (h3 e).2 y hy
          · rw [List.mem_singleton.mp hy, ← h2.no e]; exact hm
      · refine ⟨_, ?_, addT c T p [x], true, .sh (.str x), rfl, h2.add G hp (hxs x hx).1 (hxs x hx).2 hm, fun e => by cases e⟩
        have ca2 : (S0 ++ tabC T)[S0.length + pos c p.name]? = some (Cell.L (List.map D.str (tat c T p.name))) := ca
        simp! [stN, fbody, f9_b2, Proc.toD, lk, ca, in_strs, hm, keyOk, ha]
        simpa [addT] using cs)
  exact ⟨T, g, j', h1, h2, by simpa using h3⟩
/-- the dict in its slot: alone known, or shown -/
def tabS (c : List Proc) (n0 : Nat) (o : Bool) : Slot := if o then .own (.M (namesD c) (refsD n0 c.length)) else .sh (tabD c n0)
def stP (c : List Proc) (S0 : List Cell) (o g : Bool) (T : Tab) (j1 j2 : Slot) : Sta := ⟨[.sh (coreD c), tabS c S0.length o, j1, .sh (.bl g), j2], S0 ++ tabC T⟩
theorem mt_mid (k : Nat) (G : GCore c) (I0 : Pas [35] asg c T0 T0 false) (o0 : Bool) (j1 j2 : Slot) :
    ∃ T g o j1' j2', forL (fbody (prog tb (k + 4)) (.v 2) f9_b3) (c.map Proc.toD) (stP c S0 o0 false T0 j1 j2) = .next (stP c S0 o g T j1' j2') ∧ Pas [35] asg c T0 T g ∧ (g = false → Closed [35] c T0) ∧ (c ≠ [] → o = false) := by
  obtain ⟨s', h1, T, g, o, j1', j2', rfl, h2, h3, h4⟩ := forL_inv (body := fbody (prog tb (k + 4)) (.v 2) f9_b3) (toD := Proc.toD) (fun done s => ∃ T g o j1 j2, s = stP c S0 o g T j1 j2 ∧ Pas [35] asg c T0 T g ∧ (g = false → ∀ p ∈ done, ∀ x ∈ handP [35] c T0 p, x ∈ tat c T0 p.name) ∧ (done ≠ [] → o = false)) c [] (stP c S0 o0 false T0 j1 j2)
    ⟨T0, false, o0, j1, j2, rfl, I0, by simp, by simp⟩ (fun done p s hp ⟨T, g, o, j1, j2, e, h2, h3, h4⟩ => by
      subst e
      have e := passed_on k G h2.inv.len (S0 := S0) hp
      obtain ⟨T', g', j', h5, h6, h7⟩ := mt_inner (k + 4) (S0 := S0) G hp h2 (handP [35] c T p) (fun x hx => handP_der G h2.inv hp hx) j2
      refine ⟨stN c S0 p g' T' j', ?_, T', g', false, .sh p.toD, j', rfl, h6, fun eg q hq x hx => ?_, fun _ => rfl⟩
      · refine fbody_v (by simp) ?_
        unfold f9_b3
        refine seq_end (fr_go (s1 := stN c S0 p g T j2) ?_ h5)
        cases o <;> simp! [stP, stN, tabS, e]
      · obtain ⟨e1, e2⟩ := h7 eg
        rcases List.mem_append.mp hq with hq | hq
        · exact h3 e1 q hq x hx
        · have := List.mem_singleton.mp hq
          subst this
          exact e2 x (h2.no e1 ▸ hx))
  exact ⟨T, g, o, j1', j2', h1, h2, fun e p hp x hx => h3 e p (by simpa using hp) x hx, fun hc => h4 (by simpa using hc)⟩
theorem mt_while (k : Nat) (G : GCore c) (hc : c ≠ []) : ∀ (n : Nat) (T0 : Tab) (o : Bool) (j1 j2 : Slot), miss [35] c T0 ≤ n → Inv [35] asg c T0 → bnd [35] c T0 →
    ∃ T j1' j2', whileL (evt (prog tb (k + 4)) (.e (.v 3))) (execs (prog tb (k + 4)) f9_b4) (stP c S0 o true T0 j1 j2) = .next (stP c S0 false false T j1' j2') ∧ Inv [35] asg c T ∧ Closed [35] c T
  | n, T0, o, j1, j2, hn, I, B => by
    obtain ⟨T, g, o', j1', j2', h1, h2, h3, h4⟩ := mt_mid k (S0 := S0) G ⟨I, .refl T0, fun _ => rfl, (fun e => by cases e), B⟩ o j1 j2
    have hb : execs (prog tb (k + 4)) f9_b4 (stP c S0 o true T0 j1 j2) = .next (stP c S0 o' g T j1' j2') := by
      unfold f9_b4
      refine seq_go (s1 := stP c S0 o false T0 j1 j2) (by simp! [stP]) (seq_end (fr_go (s1 := stP c S0 o false T0 j1 j2) (ds := c.map Proc.toD) (by simp! [stP, coreD]) h1))
    have ho := h4 hc
    subst ho
    have hcond : evt (prog tb (k + 4)) (.e (.v 3)) (stP c S0 o true T0 j1 j2) = .ok true (stP c S0 o true T0 j1 j2) := by simp! [stP]
    cases g with
    | false =>
      have e := h2.no rfl
      subst e
      have hend := while_end (c := evt (prog tb (k + 4)) (.e (.v 3))) (b := execs (prog tb (k + 4)) f9_b4) (s := stP c S0 false false T j1' j2') (s1 := stP c S0 false false T j1' j2') (by simp! [stP])
      exact ⟨T, j1', j2', by rw [while_next hcond (.inl hb) (by rw [hend]; simp), hend], h2.inv, h3 rfl⟩
    | true =>
      have hlt := h2.yes rfl
      match n, hn with
      | 0, hn => omega
      | n + 1, hn =>
        obtain ⟨T2, a, b, h5, h6, h7⟩ := mt_while k G hc n T false j1' j2' (by omega) h2.inv h2.bd
        exact ⟨T2, a, b, by rw [while_next hcond (.inl hb) (by rw [h5]; simp), h5], h6, h7⟩
/-- the table as it begins -/
theorem base_at : ∀ {c : List Proc} {q : Proc} (f : Proc → List Wd), (c.map (·.name)).Nodup → q ∈ c → tat c (c.map f) q.name = f q
  | p :: c, q, f, nd, h => by
    simp only [List.map_cons, List.nodup_cons] at nd
    unfold tat pos
    rcases List.mem_cons.mp h with rfl | h
    · simp
    · have : ¬ p.name = q.name := fun e => nd.1 (e ▸ List.mem_map.mpr ⟨q, h, rfl⟩)
      rw [if_neg this]
      have := base_at f nd.2 h
      unfold tat at this
      simpa using this
theorem base_inv (G : GCore c) (pre : Wd) (b : St → List Wd) : Inv pre b c (c.map fun p => (flat p.body).flatMap b) := by
  refine ⟨by simp, fun p hp x hx => ?_, fun p hp s hs x hx => ?_⟩
  · rw [base_at _ G.nd hp] at hx
    obtain ⟨s, hs, hx⟩ := List.mem_flatMap.mp hx
    exact .base hs hx
  · rw [base_at _ G.nd hp]
    exact List.mem_flatMap.mpr ⟨s, hs, hx⟩
theorem base_bnd (G : GCore c) (pre : Wd) {b : St → List Wd} (h : ∀ p ∈ c, ∀ s ∈ flat p.body, (b s).length ≤ 9) : bnd pre c (c.map fun p => (flat p.body).flatMap b) := fun p hp => by
  rw [base_at _ G.nd hp]
  have h1 : ∀ l : List St, (∀ s ∈ l, (b s).length ≤ 9) → (l.flatMap b).length ≤ 9 * l.length := by
    intro l
    induction l with
    | nil => simp
    | cons a l ih =>
      intro h
      have := ih fun s hs => h s (List.mem_cons_of_mem _ hs)
      have := h a List.mem_cons_self
      simp only [List.flatMap_cons, List.length_append, List.length_cons]
      omega
  have h2 := h1 (flat p.body) (h p hp)
  have h3 := (G.ps p hp).ln
  have h4 := miss_six (T := c.map fun p => (flat p.body).flatMap b) (pre := pre) G
  omega
theorem gc_tab {S0 : List Cell} {T : Tab} (hc : c ≠ []) : gc S0.length [tabD c S0.length] (S0 ++ tabC T) = S0 ++ tabC T := by
  unfold gc
  split
  · rfl
  · have : unders S0.length [tabD c S0.length] = false := by
      cases c with
      | nil => exact absurd rfl hc
      | cons p c => simp [unders, D.under, refsD, List.range'_succ]
    rw [this]
    simp
theorem moving_table (k : Nat) (G : GCore c) (hc : c ≠ []) (S0 : List Cell) : ∃ T, Phi tb (k + 5) 9 [coreD c] S0 = .ok false (tabD c S0.length) (S0 ++ tabC T) ∧ Inv [35] asg c T ∧ Closed [35] c T := by
  have hl2 : c.length < LIM := Nat.lt_of_le_of_lt G.len (by decide)
  have hd : ev (prog tb (k + 4)) f9_c1 ⟨[.sh (coreD c), .no, .no, .no, .no], S0⟩ = .ok (true, .dct (namesD c) (refsD S0.length c.length)) ⟨[.sh (coreD c), .no, .no, .no, .no], S0 ++ tabC (c.map fun p => (flat p.body).flatMap asg)⟩ := by
    unfold f9_c1
    have := dcompL_names (turn := dturn (prog tb (k + 4)) (.v 2) [2] [] (.pr .ix [(.v 2), (.lit (.int 0))]) (.cell (.call 7 [(.v 2)]))) (σ := [.sh (coreD c), .no, .no, .no, .no]) (S0 := S0) (fun p => (flat p.body).flatMap asg) c [] (by simpa using G.nd) (by simpa using hl2) (fun p hp S => by
      have e := assigned_in k (G.ps p hp) S
      simp! [dturn, e])
    simp only [List.map_nil, List.nil_append, tabC, List.append_nil] at this
    exact ev_dcomp rfl (by simp! [coreD]) this
  obtain ⟨T, j1, j2, h1, h2, h3⟩ := mt_while k (S0 := S0) G hc 6 (c.map fun p => (flat p.body).flatMap asg) true .no .no (miss_six G) (base_inv G _ _) (base_bnd G _ fun p hp s hs => asg_len ((G.ps p hp).st s hs))
  refine ⟨T, ?_, h2, h3⟩
  rw [phi_succ (fn := f9) rfl rfl (by decide)]
  show fin S0.length (execs (prog tb (k + 4)) f9.body ⟨[.sh (coreD c), .no, .no, .no, .no], S0⟩) = _
  unfold f9
  refine fin_seq (s1 := ⟨[.sh (coreD c), tabS c S0.length true, .no, .no, .no], S0 ++ tabC (c.map fun p => (flat p.body).flatMap asg)⟩) (by simp! [hd, tabS]) ?_
  refine fin_seq (s1 := stP c S0 true true (c.map fun p => (flat p.body).flatMap asg) .no .no) (by simp! [stP]) ?_
  refine fin_seq (s1 := stP c S0 false false T j1 j2) (exec_whl.trans h1) ?_
  have hg := gc_tab (S0 := S0) (T := T) hc
  refine fin_ret (o := false) (d := tabD c S0.length) (s1 := stP c S0 false false T j1 j2) (by simp! [stP, tabS]) ?_
  simp only [fin]
  rw [show (stP c S0 false false T j1 j2).S = S0 ++ tabC T from rfl, hg]
end K62

set_option Elab.async false
set_option linter.all false
set_option maxRecDepth 100000
set_option maxHeartbeats 1000000
set_option autoImplicit false
/-! k59: inputs, states, outcomes. -/
namespace K62
open Z Co
local macro_rules
  | `(tactic| simp! [$ts,*]) => `(tactic| simp [plains, deeps, D.fit, D.plain, D.deep, lim_ble, lim_blt, cut_fromI, cut_toI, ex_set, ex_setT, ex_aug, ex_put, ex_retv, rt_lit, rt_g, rt_pr, rt_sl, rt_mp, rt_mu, rt_tup, rt_lst, rt_call, rt_callv, rt_notV, rt_bopV, rt_ite, rt_cell, rt_kin, rt_kix, rt_comp, rt_dct, ex_retN, ex_ife, ex_brk, ex_cnt, ex_pass, ex_exp, ex_rais, exs_nil, exs_cons, call_eq, glob_eq, kd_eq, atI_zero, atI_1, atI_2, atI_3, atI_4, atI_5, atI_8, wipeZ, backZ, appendC, extendC, popC, insertC, rd_v, rp_v, rp_pr, rd_lit, rd_g, rd_pr, rd_sl, rd_mp, rd_mu, rd_tup, rd_lst, rd_call, rd_callv, rd_notV, rd_bopV, rd_ite, rd_cell, rd_kin, rd_kix, rd_comp, rd_dct, rd_fn, ev, evs, evo, evrs, evt, evtb, evts, evit, evb, readV, Place.get, Place.set, Arg.get, getAll, Res.bind, Res.then, RS.seq, lift, prim, prim1, prim2, binD, cmpD, ix_lst, ix_tup, ix_str, ix_dct, slD, lenP, lenD, intD, negD, bindTo, assign, assigns, fin, der_non, der_bl, der_int, der_str, der_tup, der_lst, der_dct, der_ref, der_scr, der_fn, gc, fit_str, fit_int, D.eqv, truthD, Cell.view, isList, mutC, mrecv, mprim, mprim2, mprim3, augD, toCell, Option.bind, fromF, isiP, isiD, tupleD, listD, seqOf, noX, iterD, isSh, pix0, pix1, pix2, pix3, pix5, pix8, pder, iix0, iix1, ider, sder, eix0, kind_ne, eder, aix0, aix0e, aix1, ader, cder, $ts,*])
variable {c : List Proc} {T : Tab} {S0 : List Cell}
def movI (c : List Proc) (T : Tab) (p : Proc) : List Itm := p.items.filter fun i => decide (i.key ∈ tat c T p.name)
theorem key_len {i : Itm} (h : i.x.length ≤ 99) : i.key.length ≤ 100 := by
  unfold Itm.key
  split
  · rw [List.length_cons]; omega
  · omega
theorem variable_of (k : Nat) (i : Itm) (h : i.x.length ≤ 99) (S : List Cell) : Phi tb (k + 1) 10 [i.toD] S = .ok false (.str i.key) S := by
  rw [phi_succ (fn := f10) rfl rfl (by decide)]
  have b := lim_add1 h
  cases hi : i.arr
  · simp! [f10, hi, Itm.key]
  · simp! [f10, hi, Itm.key, b]
theorem moving_items (k : Nat) (G : GCore c) (hT : T.length = c.length) {p : Proc} (hp : p ∈ c) : Phi tb (k + 2) 11 [p.toD, tabD c S0.length] (S0 ++ tabC T) = .ok true (.lst ((movI c T p).map Itm.toD)) (S0 ++ tabC T) := by
  have lk := lookD_refs S0.length hp
  have ca := cell_at (S0 := S0) hT hp
  have hc : ev (prog tb (k + 1)) f11_c1 ⟨[.sh p.toD, .sh (tabD c S0.length), .no], S0 ++ tabC T⟩ = .ok (true, .lst ((movI c T p).map Itm.toD)) ⟨[.sh p.toD, .sh (tabD c S0.length), .no], S0 ++ tabC T⟩ := by
    unfold f11_c1
    refine ev_compF p.items Itm.toD (fun i => decide (i.key ∈ tat c T p.name)) Itm.toD rfl (by simp! []) (Nat.le_trans (G.ps p hp).il (by decide)) fun i hi => ?_
    have e := variable_of k i ((G.ps p hp).ix i hi) (S0 ++ tabC T)
    by_cases hm : i.key ∈ tat c T p.name
    · simp! [cturn, e, lk, ca, in_strs, hm, keyOk]
    · simp! [cturn, e, lk, ca, in_strs, hm, keyOk]
  rw [phi_succ (fn := f11) rfl rfl (by decide)]
  simp! [f11, f11_c1t, hc]
theorem movI_len (G : GCore c) {p : Proc} (hp : p ∈ c) : (movI c T p).length ≤ 3 := Nat.le_trans (List.length_filter_le _ _) (G.ps p hp).il
theorem movI_mem {p : Proc} {i : Itm} (h : i ∈ movI c T p) : i ∈ p.items := (List.mem_filter.mp h).1
/-- what moves, whatever the table -/
noncomputable def mv (c : List Proc) (p : Proc) : List Itm := p.items.filter fun i => @decide (Der [35] asg c p i.key) (Classical.propDecidable _)
theorem movI_mv (G : GCore c) (I : Inv [35] asg c T) (C : Closed [35] c T) {p : Proc} (hp : p ∈ c) : movI c T p = mv c p := by
  unfold movI mv
  apply List.filter_congr
  intro i _
  rw [decide_eq_decide]
  exact closed_iff G I C hp _
theorem states_of_proc (k : Nat) (G : GCore c) (hT : T.length = c.length) {p : Proc} (hp : p ∈ c) : Phi tb (k + 3) 12 [p.toD, tabD c S0.length] (S0 ++ tabC T) = .ok false (sD ((movI c T p ++ p.places).map Itm.key)) (S0 ++ tabC T) := by
  have e1 := moving_items k (S0 := S0) G hT hp
  have hl : (movI c T p).length + p.places.length ≤ LIM := lim_le (by have := movI_len (T := T) G hp; have := (G.ps p hp).pl; omega)
  have hc : ev (prog tb (k + 2)) f12_c1 ⟨[.sh p.toD, .sh (tabD c S0.length), .no], S0 ++ tabC T⟩ = .ok (true, .lst ((movI c T p ++ p.places).map fun i => .str i.key)) ⟨[.sh p.toD, .sh (tabD c S0.length), .no], S0 ++ tabC T⟩ := by
    unfold f12_c1
    refine ev_compM (movI c T p ++ p.places) Itm.toD (fun i => .str i.key) rfl (by simp! [e1, hl]) (by rw [List.length_append]; exact hl) fun i hi => ?_
    have hx : i.x.length ≤ 99 := (List.mem_append.mp hi).elim (fun h => (G.ps p hp).ix i (movI_mem h)) fun h => (G.ps p hp).px i h
    have e := variable_of (k + 1) i hx (S0 ++ tabC T)
    simp! [cturn, e]
  rw [phi_succ (fn := f12) rfl rfl (by decide)]
  have e3 : ((movI c T p ++ p.places).map fun i => D.str i.key) = ((movI c T p ++ p.places).map Itm.key).map D.str := by rw [List.map_map]; rfl
  rw [e3] at hc
  generalize (movI c T p ++ p.places).map Itm.key = r at hc ⊢
  simp! [f12, f12_c1r, hc, sD]
theorem states_of (k : Nat) (G : GCore c) {p : Proc} (hp : p ∈ c) (hS : okS S0 = true) : Phi tb (k + 6) 13 [coreD c, .str p.name] S0 = .ok false (sD ((mv c p ++ p.places).map Itm.key)) S0 := by
  obtain ⟨T, e1, hI, hC⟩ := moving_table k G (List.ne_nil_of_mem hp) S0
  have e2 := proc_named (k + 4) G hp S0
  have e3 := states_of_proc (k + 2) (S0 := S0) G hI.len hp
  rw [movI_mv G hI hC hp] at e3
  rw [phi_succ (fn := f13) rfl rfl (by decide)]
  show fin S0.length (execs (prog tb (k + 5)) f13.body ⟨[.sh (coreD c), .sh (.str p.name)], S0⟩) = _
  unfold f13
  refine fin_ret (o := false) (d := sD ((mv c p ++ p.places).map Itm.key)) (s1 := ⟨[.sh (coreD c), .sh (.str p.name)], S0 ++ tabC T⟩) ?_ ?_
  · generalize sD ((mv c p ++ p.places).map Itm.key) = r at e3 ⊢
    simp! [e1, e2, e3]
  · simp only [fin]
    rw [gc_back hS _ (under_sD _ _)]
end K62

set_option Elab.async false
set_option linter.all false
set_option maxRecDepth 100000
set_option maxHeartbeats 1000000
set_option autoImplicit false
/-! k59: the law's own tables. -/
namespace K62
open Z Co
local macro_rules
  | `(tactic| simp! [$ts,*]) => `(tactic| simp [plains, deeps, D.fit, D.plain, D.deep, lim_ble, lim_blt, cut_fromI, cut_toI, ex_set, ex_setT, ex_aug, ex_put, ex_retv, rt_lit, rt_g, rt_pr, rt_sl, rt_mp, rt_mu, rt_tup, rt_lst, rt_call, rt_callv, rt_notV, rt_bopV, rt_ite, rt_cell, rt_kin, rt_kix, rt_comp, rt_dct, ex_retN, ex_ife, ex_brk, ex_cnt, ex_pass, ex_exp, ex_rais, exs_nil, exs_cons, call_eq, glob_eq, kd_eq, atI_zero, atI_1, atI_2, atI_3, atI_4, atI_5, atI_8, wipeZ, backZ, appendC, extendC, popC, insertC, rd_v, rp_v, rp_pr, rd_lit, rd_g, rd_pr, rd_sl, rd_mp, rd_mu, rd_tup, rd_lst, rd_call, rd_callv, rd_notV, rd_bopV, rd_ite, rd_cell, rd_kin, rd_kix, rd_comp, rd_dct, rd_fn, ev, evs, evo, evrs, evt, evtb, evts, evit, evb, readV, Place.get, Place.set, Arg.get, getAll, Res.bind, Res.then, RS.seq, lift, prim, prim1, prim2, binD, cmpD, ix_lst, ix_tup, ix_str, ix_dct, slD, lenP, lenD, intD, negD, bindTo, assign, assigns, fin, der_non, der_bl, der_int, der_str, der_tup, der_lst, der_dct, der_ref, der_scr, der_fn, gc, fit_str, fit_int, D.eqv, truthD, Cell.view, isList, mutC, mrecv, mprim, mprim2, mprim3, augD, toCell, Option.bind, fromF, isiP, isiD, tupleD, listD, seqOf, noX, iterD, isSh, pix0, pix1, pix2, pix3, pix5, pix8, pder, iix0, iix1, ider, sder, eix0, kind_ne, eder, aix0, aix0e, aix1, ader, cder, $ts,*])
variable {c : List Proc} {T : Tab}
theorem law_key (k : Nat) (i : Itm) (h : i.x.length ≤ 99) (S : List Cell) : Phi tb (k + 1) 34 [i.toD] S = .ok false (.str i.key) S := by
  rw [phi_succ (fn := f34) rfl rfl (by decide)]
  have b := lim_add1 h
  cases hi : i.arr
  · simp! [f34, hi, Itm.key]
  · simp! [f34, hi, Itm.key, b]
def stL (S : List Cell) (d : D) (j : Slot) (acc : List St) : Sta := ⟨[.sh d, .own (.L (acc.map St.toD)), j], S⟩
theorem lst_body (k n : Nat) (S : List Cell) (d : D) (ih : ∀ b, hgts b + 1 ≤ n → (flat b).length ≤ LIM → Phi tb (k + n) 35 [.tup (b.map St.toD)] S = .ok true (.lst ((flat b).map St.toD)) S) (j : Slot) (acc : List St) (x : St) (hx : hgt x ≤ n) (hl : acc.length + (x :: sub x).length ≤ LIM) :
    ∃ j', fbody (prog tb (k + n)) (.v 2) f35_b1 x.toD (stL S d j acc) = .next (stL S d j' (acc ++ (x :: sub x))) := by
  simp only [List.length_cons] at hl
  have h0 : acc.length < LIM := by omega
  cases x with
  | whl c b =>
    simp only [hgt, sub] at hx hl
    have e := ih b (by omega) (by omega)
    refine ⟨.sh (St.whl c b).toD, ?_⟩
    have h1 : acc.length + 1 + (flat b).length ≤ LIM := by omega
    simp! [stL, fbody, f35_b1, St.toD, stsD_map, e, h0, h1, sub]
  | ite c b b2 =>
    simp only [hgt, sub, List.length_append] at hx hl
    have e := ih b (by omega) (by omega)
    have e2 := ih b2 (by omega) (by omega)
    refine ⟨.sh (St.ite c b b2).toD, ?_⟩
    have h1 : acc.length + 1 + (flat b).length ≤ LIM := by omega
    have h2 : acc.length + 1 + (flat b).length + (flat b2).length ≤ LIM := by omega
    have h3 : acc.length + (1 + (flat b).length) + (flat b2).length ≤ LIM := by omega
    have h4 : acc.length + ((flat b).length + 1) + (flat b2).length ≤ LIM := by omega
    simp! [stL, fbody, f35_b1, St.toD, stsD_map, e, e2, h0, h1, h2, h3, h4, sub]
  | set y e => exact ⟨.sh (St.set y e).toD, by simp! [stL, fbody, f35_b1, St.toD, h0, sub]⟩
  | store y e f => exact ⟨.sh (St.store y e f).toD, by simp! [stL, fbody, f35_b1, St.toD, h0, sub]⟩
  | push y e => exact ⟨.sh (St.push y e).toD, by simp! [stL, fbody, f35_b1, St.toD, h0, sub]⟩
  | pop y e => exact ⟨.sh (St.pop y e).toD, by simp! [stL, fbody, f35_b1, St.toD, h0, sub]⟩
  | pause => exact ⟨.sh St.pause.toD, by simp! [stL, fbody, f35_b1, St.toD, h0, sub]⟩
  | call y e f => exact ⟨.sh (St.call y e f).toD, by simp! [stL, fbody, f35_b1, St.toD, h0, sub]⟩
  | give e => exact ⟨.sh (St.give e).toD, by simp! [stL, fbody, f35_b1, St.toD, h0, sub]⟩
theorem lsts_ok : ∀ (n k : Nat) (b : List St) (S : List Cell), hgts b ≤ n → (flat b).length ≤ LIM → Phi tb (k + n + 1) 35 [.tup (b.map St.toD)] S = .ok true (.lst ((flat b).map St.toD)) S
  | n, k, b, S, hb, hl => by
    have ih : ∀ b, hgts b + 1 ≤ n → (flat b).length ≤ LIM → Phi tb (k + n) 35 [.tup (b.map St.toD)] S = .ok true (.lst ((flat b).map St.toD)) S := fun b' h1 h2 => by
      match n, h1 with
      | n + 1, h1 => exact lsts_ok n k b' S (by omega) h2
    obtain ⟨j, hloop⟩ := forL_appJ (body := fbody (prog tb (k + n)) (.v 2) f35_b1) (toD := St.toD) (st := stL S (.tup (b.map St.toD))) (f := fun s => s :: sub s) LIM b [] .no (by rw [← flat_map]; simpa using hl) fun j acc x hx h => lst_body k n S _ ih j acc x (Nat.le_trans (hgt_mem hx) hb) h
    rw [← flat_map, List.nil_append] at hloop
    rw [phi_succ (fn := f35) rfl rfl (by decide)]
    show fin S.length (execs (prog tb (k + n)) f35.body ⟨[.sh (.tup (b.map St.toD)), .no, .no], S⟩) = _
    unfold f35
    refine fin_seq (s1 := stL S (.tup (b.map St.toD)) .no []) (by simp! [stL]) ?_
    refine fin_seq (s1 := stL S (.tup (b.map St.toD)) j (flat b)) (fr_go (s1 := stL S (.tup (b.map St.toD)) .no []) (by simp! [stL]) hloop) ?_
    simp! [stL]
theorem lsts (k : Nat) {c : List Proc} {p : Proc} (g : GProc c p) (S : List Cell) : Phi tb (k + 3) 35 [.tup (p.body.map St.toD)] S = .ok true (.lst ((flat p.body).map St.toD)) S :=
  lsts_ok 2 k p.body S g.hg (Nat.le_trans g.ln (by decide))
/-! ### what moves -/
abbrev Js := Slot × Slot × Slot × Slot × Slot
def stT (c : List Proc) (S : List Cell) (p2 : Slot) (T : Tab) (j : Js) : Sta := ⟨[.sh (coreD c), .own (.M (namesD c) (listsD T)), p2, j.1, j.2.1, .no, .no, j.2.2.1, j.2.2.2.1, .no, j.2.2.2.2, .no], S⟩
def lb (c : List Proc) (T : Tab) (N : Nat) : Prop := ∀ p ∈ c, (tat c T p.name).length ≤ N
theorem addT_lb (hT : T.length = c.length) {p : Proc} (hp : p ∈ c) {xs : List Wd} {N M : Nat} (h : lb c T N) (hx : xs.length ≤ M) : lb c (addT c T p xs) (N + M) := fun q hq => by
  unfold addT
  rw [tat_set hT hp hq]
  have h1 := h p hp
  have h2 := h q hq
  split
  · rw [List.length_append]; omega
  · omega
def isArr : Ag → Bool
  | .arr _ => true
  | .ex _ => false
def nmA : Ag → Wd
  | .arr x => x
  | .ex _ => []
theorem hand_eq (t : List Wd) : ∀ l : List (Itm × Ag), (∀ z ∈ l, (∃ x, z.2 = .arr x ∧ z.1.arr = true) ∨ (∃ e, z.2 = .ex e ∧ z.1.arr = false)) → ((l.filter fun z => decide (z.1.key ∈ t)).filter fun z => isArr z.2).map (fun z => 35 :: nmA z.2) = l.flatMap (hand1 [35] t)
  | [], _ => rfl
  | z :: l, h => by
    have ih := hand_eq t l fun y hy => h y (List.mem_cons_of_mem _ hy)
    obtain ⟨i, a⟩ := z
    simp only [List.flatMap_cons, ← ih]
    rcases h (i, a) List.mem_cons_self with ⟨x, rfl, hi⟩ | ⟨e, rfl, hi⟩
    · have hi : i.arr = true := hi
      have hk : i.key = 35 :: i.x := by unfold Itm.key; rw [if_pos hi]
      by_cases hm : 35 :: i.x ∈ t
      · simp [hk, hm, isArr, nmA, hand1, hi]
      · simp [hk, hm, isArr, nmA, hand1, hi]
    · by_cases hm : i.key ∈ t
      · simp [hm, isArr, hand1]
      · simp [hm, isArr, hand1]
def mz0 (c : List Proc) (T : Tab) (p q : Proc) (s : D) (j1 j7 j8 j10 : Slot) : List Slot := [.sh (coreD c), .own (.M (namesD c) (listsD T)), .sh p.toD, j1, .sh s, .no, .no, j7, j8, .no, j10, .no]
theorem lm4 (k : Nat) (G : GCore c) (S : List Cell) {p q : Proc} (hq : q ∈ c) (as : List Ag) (ts : List Wd) (j1 j7 j8 j10 : Slot) :
    ev (prog tb (k + 1)) f36_c4 ⟨mz0 c T p q (St.call q.name as ts).toD j1 j7 j8 j10, S⟩ = .ok (true, .lst [q.toD]) ⟨mz0 c T p q (St.call q.name as ts).toD j1 j7 j8 j10, S⟩ := by
  unfold f36_c4
  refine (ev_compF (σ1 := mz0 c T p q (St.call q.name as ts).toD j1 j7 j8 j10) (S1 := S) c Proc.toD (fun p => decide (p.name = q.name)) Proc.toD rfl (by simp! [mz0, coreD]) (Nat.le_trans G.len (by decide)) fun r hr => ?_).trans ?_
  · by_cases hq : r.name = q.name
    · simp! [cturn, mz0, hq, St.toD]
    · simp! [cturn, mz0, hq, St.toD]
  · rw [filter_name G.nd hq]
    rfl
def hps (t : List Wd) (is : List Itm) (as : List Ag) : List (Itm × Ag) := (is.zip as).filter fun z => decide (z.1.key ∈ t)
theorem hps_len (t : List Wd) (is : List Itm) (as : List Ag) (h : is.length ≤ 3) : (hps t is as).length ≤ LIM := by
  have h1 := List.length_filter_le (fun z : Itm × Ag => decide (z.1.key ∈ t)) (is.zip as)
  have h2 : (is.zip as).length ≤ is.length := by rw [List.length_zip]; omega
  exact lim_le (Nat.le_trans h1 (Nat.le_trans h2 (Nat.le_trans h (by decide))))
theorem lm5 (k : Nat) (G : GCore c) (S : List Cell) (hT : T.length = c.length) {p q : Proc} (hq : q ∈ c) {as : List Ag} (hf : fits q.items as) (ts : List Wd) (j1 j7 j10 : Slot) :
    ev (prog tb (k + 1)) f36_c5 ⟨mz0 c T p q (St.call q.name as ts).toD j1 j7 (.sh (.tup (q.items.map Itm.toD))) j10, S⟩ = .ok (true, .lst ((hps (tat c T q.name) q.items as).map fun z => z.2.toD)) ⟨mz0 c T p q (St.call q.name as ts).toD j1 j7 (.sh (.tup (q.items.map Itm.toD))) j10, S⟩ := by
  have lq := lookD_lists hT hq
  have hlen := fits_len hf
  have hzl : (q.items.zip as).length = q.items.length := by rw [List.length_zip]; omega
  have hil := (G.ps q hq).il
  have hil2 : q.items.length ≤ LIM := lim_le (by omega)
  have hg : (hps (tat c T q.name) q.items as).map (fun z => z.2.toD) = (List.range q.items.length).filterMap fun k => ((q.items.zip as)[k]?).bind fun z => if decide (z.1.key ∈ tat c T q.name) = true then some z.2.toD else none := by
    rw [← hzl, range_filterMap, filterMap_if]
    rfl
  rw [hg]
  unfold f36_c5
  refine ev_compS (List.range q.items.length) (fun (i : Nat) => D.int i) _ rfl ?_ (by rw [List.length_range]; exact hil2) fun m hm => ?_
  · exact evit_rng (ds := [.int q.items.length]) (by simp! [mz0]) (range_one _ hil2)
  · have hm1 : m < q.items.length := List.mem_range.mp hm
    have hm2 : m < as.length := by omega
    have ai : atI (q.items.map Itm.toD) (m : Int) = some q.items[m].toD := by rw [atI_nat]; simp [hm1]
    have aa : atI (as.map Ag.toD) (m : Int) = some as[m].toD := by rw [atI_nat]; simp [hm2]
    have hz : (q.items.zip as)[m]? = some (q.items[m], as[m]) := by rw [List.getElem?_eq_getElem (by rw [hzl]; exact hm1)]; simp
    have e := law_key k q.items[m] ((G.ps q hq).ix _ (List.getElem_mem hm1)) S
    rw [hz]
    generalize q.items[m] = i at ai e ⊢
    generalize as[m] = a at aa ⊢
    generalize (m : Int) = mi at ai aa ⊢
    by_cases hk : i.key ∈ tat c T q.name
    · simp! [cturn, mz0, ai, e, lq, in_strs, hk, St.toD, aa, keyOk]
    · simp! [cturn, mz0, ai, e, lq, in_strs, hk, St.toD, aa, keyOk]
theorem lm6 (k : Nat) (G : GCore c) (S : List Cell) {p q : Proc} (hp : p ∈ c) (hq : q ∈ c) {as : List Ag} (hf : fits q.items as) (ha : argsIn (arrs p) as) (s : D) (j1 j7 j8 : Slot) :
    ev (prog tb (k + 1)) f36_c6 ⟨mz0 c T p q s j1 j7 j8 (.own (.L ((hps (tat c T q.name) q.items as).map fun z => z.2.toD))), S⟩ = .ok (true, .lst ((handed [35] (tat c T q.name) q.items as).map .str)) ⟨mz0 c T p q s j1 j7 j8 (.sh (.lst ((hps (tat c T q.name) q.items as).map fun z => z.2.toD))), S⟩ := by
  have hh := hand_eq (tat c T q.name) (q.items.zip as) fun z hz => fits_zip hf hz
  have hl := hps_len (tat c T q.name) q.items as (G.ps q hq).il
  unfold handed
  rw [← hh, List.map_map]
  show _ = Res.ok (true, D.lst (((hps (tat c T q.name) q.items as).filter fun z => isArr z.2).map fun z => D.str (35 :: nmA z.2))) _
  unfold f36_c6
  refine ev_compF (P := prog tb (k + 1)) (tg := .v 6) (vs := [6]) (it := .seq (.v 10)) (σ := mz0 c T p q s j1 j7 j8 (.own (.L ((hps (tat c T q.name) q.items as).map fun z => z.2.toD)))) (S := S) (σ1 := mz0 c T p q s j1 j7 j8 (.sh (.lst ((hps (tat c T q.name) q.items as).map fun z => z.2.toD)))) (S1 := S) (hps (tat c T q.name) q.items as) (fun z => z.2.toD) (fun z => isArr z.2) (fun z => D.str (35 :: nmA z.2)) rfl (by simp! [mz0]) hl fun z hz => ?_
  have hz2 : z.2 ∈ as := (List.of_mem_zip (List.mem_filter.mp hz).1).2
  obtain ⟨i, a⟩ := z
  cases a with
  | arr x =>
    have b := lim_add1 (argsIn_len G hp ha hz2)
    simp! [cturn, mz0, isArr, nmA, b]
  | ex e => simp! [cturn, mz0, isArr]
theorem lm_s1 (k : Nat) (S : List Cell) {p q : Proc} {as : List Ag} {ts : List Wd} (j : Js) (h4 : ev (prog tb (k + 1)) f36_c4 ⟨mz0 c T p q (St.call q.name as ts).toD j.1 j.2.2.1 j.2.2.2.1 j.2.2.2.2, S⟩ = .ok (true, .lst [q.toD]) ⟨mz0 c T p q (St.call q.name as ts).toD j.1 j.2.2.1 j.2.2.2.1 j.2.2.2.2, S⟩) :
    exec (prog tb (k + 1)) (.set 8 (.pr .ix [(.pr .ix [f36_c4, (.lit (.int 0))]), (.lit (.int 1))])) ⟨mz0 c T p q (St.call q.name as ts).toD j.1 j.2.2.1 j.2.2.2.1 j.2.2.2.2, S⟩ = .next ⟨mz0 c T p q (St.call q.name as ts).toD j.1 j.2.2.1 (.sh (.tup (q.items.map Itm.toD))) j.2.2.2.2, S⟩ := by
  have at0 : ∀ d : D, atI [d] 0 = some d := fun d => rfl
  simp! [h4, f36_c4r, at0]
  simp [mz0]
theorem lm_s2 (k : Nat) (S : List Cell) {p q : Proc} {s : D} {P : List D} (j1 j7 j10 : Slot) (h5 : ev (prog tb (k + 1)) f36_c5 ⟨mz0 c T p q s j1 j7 (.sh (.tup (q.items.map Itm.toD))) j10, S⟩ = .ok (true, .lst P) ⟨mz0 c T p q s j1 j7 (.sh (.tup (q.items.map Itm.toD))) j10, S⟩) :
    exec (prog tb (k + 1)) (.set 10 f36_c5) ⟨mz0 c T p q s j1 j7 (.sh (.tup (q.items.map Itm.toD))) j10, S⟩ = .next ⟨mz0 c T p q s j1 j7 (.sh (.tup (q.items.map Itm.toD))) (.own (.L P)), S⟩ := by
  refine (exec_set h5).trans ?_
  simp [bindTo, toCell, mz0]
theorem lm_s3 (k : Nat) (G : GCore c) (S : List Cell) (I : Inv [35] asg c T) {p q : Proc} (hp : p ∈ c) {s : D} {P : List D} {H : List Wd} (j1 j7 j8 : Slot) (hsum : (tat c T p.name).length + H.length ≤ LIM)
    (h6 : ev (prog tb (k + 1)) f36_c6 ⟨mz0 c T p q s j1 j7 j8 (.own (.L P)), S⟩ = .ok (true, .lst (H.map .str)) ⟨mz0 c T p q s j1 j7 j8 (.sh (.lst P)), S⟩) :
    exec (prog tb (k + 1)) (.put (.v 1) (.pr .ix [(.v 2), (.lit (.int 0))]) (.pr (.bin .Add) [(.pr .ix [(.v 1), (.pr .ix [(.v 2), (.lit (.int 0))])]), f36_c6])) ⟨mz0 c T p q s j1 j7 j8 (.own (.L P)), S⟩ = .next ⟨mz0 c (addT c T p H) p q s j1 j7 j8 (.sh (.lst P)), S⟩ := by
  have lp := lookD_lists I.len hp
  have hput := put_lists (T := T) (q := p) (tat c T p.name ++ H) G.nd I.len hp (Nat.lt_of_le_of_lt G.len (by decide))
  rw [List.map_append] at hput
  have e1 : ev (prog tb (k + 1)) (.pr .ix [(.v 1), (.pr .ix [(.v 2), (.lit (.int 0))])]) ⟨mz0 c T p q s j1 j7 j8 (.own (.L P)), S⟩ = .ok (false, .lst ((tat c T p.name).map .str)) ⟨mz0 c T p q s j1 j7 j8 (.own (.L P)), S⟩ := by simp! [mz0, lp, keyOk]
  have e2 : ev (prog tb (k + 1)) (.pr (.bin .Add) [(.pr .ix [(.v 1), (.pr .ix [(.v 2), (.lit (.int 0))])]), f36_c6]) ⟨mz0 c T p q s j1 j7 j8 (.own (.L P)), S⟩ = .ok (true, .lst ((tat c T p.name).map .str ++ H.map .str)) ⟨mz0 c T p q s j1 j7 j8 (.sh (.lst P)), S⟩ :=
    ev_pr2 (x := .val (.lst ((tat c T p.name).map .str))) (y := .val (.lst (H.map .str))) (rd_of e1) (by rw [f36_c6r, h6]; rfl) rfl rfl (by simp [prim2, binD, hsum])
  rw [ex_put, e2]
  simp! [mz0, hput, addT]
theorem lm_call (k : Nat) (G : GCore c) (S : List Cell) (I : Inv [35] asg c T) {p q : Proc} (hp : p ∈ c) (hq : q ∈ c) {as : List Ag} {ts : List Wd} (hf : fits q.items as) (ha : argsIn (arrs p) as) {N : Nat} (hN : lb c T N) (hN2 : N + 3 ≤ LIM) (j : Js) :
    ∃ j', fbody (prog tb (k + 1)) (.v 4) f36_b7 (St.call q.name as ts).toD (stT c S (.sh p.toD) T j) = .next (stT c S (.sh p.toD) (addT c T p (handed [35] (tat c T q.name) q.items as)) j') := by
  have hil := (G.ps q hq).il
  have h4 := lm4 (T := T) k G S (p := p) hq as ts j.1 j.2.2.1 j.2.2.2.1 j.2.2.2.2
  have h5 := lm5 k G S I.len (p := p) hq hf ts j.1 j.2.2.1 j.2.2.2.2
  have h6 := lm6 (T := T) k G S hp hq hf ha (St.call q.name as ts).toD j.1 j.2.2.1 (.sh (.tup (q.items.map Itm.toD)))
  have hl3 := handed_len [35] (tat c T q.name) q.items as
  have hlp := hN p hp
  have hsum : (tat c T p.name).length + (handed [35] (tat c T q.name) q.items as).length ≤ LIM := by omega
  refine ⟨(j.1, .sh (St.call q.name as ts).toD, j.2.2.1, .sh (.tup (q.items.map Itm.toD)), .sh (.lst ((hps (tat c T q.name) q.items as).map fun z => z.2.toD))), ?_⟩
  refine fbody_v (by simp [stT]) ?_
  unfold f36_b7
  refine one_ret.trans (exec_if_true (s1 := ⟨mz0 c T p q (St.call q.name as ts).toD j.1 j.2.2.1 j.2.2.2.1 j.2.2.2.2, S⟩) (by simp! [stT, mz0, St.toD]) ?_)
  exact seq_go (lm_s1 k S j h4) (seq_go (lm_s2 k S _ _ _ h5) (seq_end (lm_s3 k G S I hp _ _ _ hsum h6)))
/-- one statement of a turn -/
theorem lm_stmt (k : Nat) (G : GCore c) (S : List Cell) (I : Inv [35] asg c T) {p : Proc} (hp : p ∈ c) {s : St} (hs : s ∈ flat p.body) {N : Nat} (hN : lb c T N) (hN2 : N + 3 ≤ LIM) (j : Js) :
    ∃ T' j', fbody (prog tb (k + 1)) (.v 4) f36_b7 s.toD (stT c S (.sh p.toD) T j) = .next (stT c S (.sh p.toD) T' j') ∧ Inv [35] asg c T' ∧ Le c T T' ∧ (∀ x ∈ handS [35] c T s, x ∈ tat c T' p.name) ∧ lb c T' (N + 3) := by
  have hN3 : lb c T (N + 3) := fun q hq => Nat.le_trans (hN q hq) (Nat.le_add_right _ _)
  cases s with
  | call f as ts =>
    obtain ⟨⟨q, hq, rfl, hf⟩, ha, _⟩ := (G.ps p hp).st _ hs
    obtain ⟨j', e⟩ := lm_call k G S I hp hq hf ha (ts := ts) hN hN2 j
    have hsub : ∀ x ∈ handed [35] (tat c T q.name) q.items as, Der [35] asg c p x := fun x hx => (handP_der G I hp (List.mem_flatMap.mpr ⟨_, hs, by simp only [handS, itemsOf_mem G.nd hq]; exact hx⟩)).1
    refine ⟨_, j', e, addT_inv G I hp hsub, addT_le I.len hp _, fun x hx => ?_, addT_lb I.len hp hN (Nat.le_trans (handed_len _ _ _ _) (G.ps q hq).il)⟩
    simp only [handS, itemsOf_mem G.nd hq] at hx
    rw [addT_self I.len hp]
    exact List.mem_append_right _ hx
  | set y e => exact ⟨T, (j.1, .sh (St.set y e).toD, j.2.2), by simp! [stT, fbody, f36_b7, St.toD], I, .refl T, by simp [handS], hN3⟩
  | store y e f => exact ⟨T, (j.1, .sh (St.store y e f).toD, j.2.2), by simp! [stT, fbody, f36_b7, St.toD], I, .refl T, by simp [handS], hN3⟩
  | push y e => exact ⟨T, (j.1, .sh (St.push y e).toD, j.2.2), by simp! [stT, fbody, f36_b7, St.toD], I, .refl T, by simp [handS], hN3⟩
  | pop y e => exact ⟨T, (j.1, .sh (St.pop y e).toD, j.2.2), by simp! [stT, fbody, f36_b7, St.toD], I, .refl T, by simp [handS], hN3⟩
  | pause => exact ⟨T, (j.1, .sh St.pause.toD, j.2.2), by simp! [stT, fbody, f36_b7, St.toD], I, .refl T, by simp [handS], hN3⟩
  | whl y e => exact ⟨T, (j.1, .sh (St.whl y e).toD, j.2.2), by simp! [stT, fbody, f36_b7, St.toD], I, .refl T, by simp [handS], hN3⟩
  | ite y e f => exact ⟨T, (j.1, .sh (St.ite y e f).toD, j.2.2), by simp! [stT, fbody, f36_b7, St.toD], I, .refl T, by simp [handS], hN3⟩
  | give e => exact ⟨T, (j.1, .sh (St.give e).toD, j.2.2), by simp! [stT, fbody, f36_b7, St.toD], I, .refl T, by simp [handS], hN3⟩
/-- one turn -/
theorem lm_proc (k : Nat) (G : GCore c) (S : List Cell) (I : Inv [35] asg c T) {p : Proc} (hp : p ∈ c) {N : Nat} (hN : lb c T N) (hN2 : N + 3 * 999 ≤ LIM) (j2 : Slot) (j : Js) :
    ∃ T' j', fbody (prog tb (k + 3)) (.v 2) f36_b8 p.toD (stT c S j2 T j) = .next (stT c S (.sh p.toD) T' j') ∧ Inv [35] asg c T' ∧ Le c T T' ∧ (∀ x ∈ handP [35] c T p, x ∈ tat c T' p.name) ∧ lb c T' (N + 3 * 999) := by
  have hln := (G.ps p hp).ln
  have e := lsts k (G.ps p hp) S
  have gen : ∀ (xs done : List St), done ++ xs = flat p.body → ∀ (T1 : Tab) (j1 : Js), Inv [35] asg c T1 → Le c T T1 → (∀ s ∈ done, ∀ x ∈ handS [35] c T s, x ∈ tat c T1 p.name) → lb c T1 (N + 3 * done.length) →
      ∃ T' j', forL (fbody (prog tb (k + 3)) (.v 4) f36_b7) (xs.map St.toD) (stT c S (.sh p.toD) T1 j1) = .next (stT c S (.sh p.toD) T' j') ∧ Inv [35] asg c T' ∧ Le c T T' ∧ (∀ s ∈ flat p.body, ∀ x ∈ handS [35] c T s, x ∈ tat c T' p.name) ∧ lb c T' (N + 3 * (flat p.body).length) := by
    intro xs
    induction xs with
    | nil =>
      intro done hd T1 j1 I1 hle hall hb
      rw [List.append_nil] at hd
      subst hd
      exact ⟨T1, j1, rfl, I1, hle, hall, hb⟩
    | cons s xs ih =>
      intro done hd T1 j1 I1 hle hall hb
      have hs : s ∈ flat p.body := by rw [← hd]; simp
      have hlt : done.length < (flat p.body).length := by rw [← hd, List.length_append, List.length_cons]; omega
      obtain ⟨T2, j2, e1, I2, le2, all2, b2⟩ := lm_stmt (k + 2) G S I1 hp hs hb (by omega) j1
      obtain ⟨T3, j3, e3, r⟩ := ih (done ++ [s]) (by simpa using hd) T2 j2 I2 (hle.trans le2) (fun s' hs' x hx => by
        rcases List.mem_append.mp hs' with h | h
        · exact le2 p hp x (hall s' h x hx)
        · rw [List.mem_singleton.mp h] at hx
          exact all2 x (handS_mono G hle hp hs hx)) (by rw [List.length_append]; exact b2)
      exact ⟨T3, j3, by simp only [List.map_cons, forL, e1]; exact e3, r⟩
  obtain ⟨T', j', h1, h2, h3, h4, h5⟩ := gen (flat p.body) [] rfl T j I (.refl T) (by simp) (by simpa using hN)
  refine ⟨T', j', ?_, h2, h3, fun x hx => ?_, fun q hq => Nat.le_trans (h5 q hq) (by omega)⟩
  · refine fbody_v (by simp [stT]) ?_
    unfold f36_b8
    exact seq_end (fr_go (s1 := stT c S (.sh p.toD) T j) (by simp! [stT, e]) h1)
  · obtain ⟨s, hs, hx⟩ := List.mem_flatMap.mp hx
    exact h4 s hs x hx
theorem lm_turn (k : Nat) (G : GCore c) (S : List Cell) (I : Inv [35] asg c T) {N : Nat} (hN : lb c T N) (hN2 : N + 3 * 999 * 2 ≤ LIM) (j2 : Slot) (j : Js) :
    ∃ T' j2' j', forL (fbody (prog tb (k + 3)) (.v 2) f36_b8) (c.map Proc.toD) (stT c S j2 T j) = .next (stT c S j2' T' j') ∧ Inv [35] asg c T' ∧ Le c T T' ∧ (∀ p ∈ c, ∀ x ∈ handP [35] c T p, x ∈ tat c T' p.name) ∧ lb c T' (N + 3 * 999 * 2) := by
  have gen : ∀ (xs done : List Proc), done ++ xs = c → ∀ (T1 : Tab) (j2 : Slot) (j1 : Js), Inv [35] asg c T1 → Le c T T1 → (∀ p ∈ done, ∀ x ∈ handP [35] c T p, x ∈ tat c T1 p.name) → lb c T1 (N + 3 * 999 * done.length) →
      ∃ T' j2' j', forL (fbody (prog tb (k + 3)) (.v 2) f36_b8) (xs.map Proc.toD) (stT c S j2 T1 j1) = .next (stT c S j2' T' j') ∧ Inv [35] asg c T' ∧ Le c T T' ∧ (∀ p ∈ c, ∀ x ∈ handP [35] c T p, x ∈ tat c T' p.name) ∧ lb c T' (N + 3 * 999 * c.length) := by
    intro xs
    induction xs with
    | nil =>
      intro done hd T1 j2 j1 I1 hle hall hb
      rw [List.append_nil] at hd
      subst hd
      exact ⟨T1, j2, j1, rfl, I1, hle, hall, hb⟩
    | cons p xs ih =>
      intro done hd T1 j2 j1 I1 hle hall hb
      have hp : p ∈ c := by rw [← hd]; simp
      have hlt : done.length < c.length := by rw [← hd, List.length_append, List.length_cons]; omega
      have hlt2 := G.len
      obtain ⟨T2, j2', e1, I2, le2, all2, b2⟩ := lm_proc k G S I1 hp hb (by omega) j2 j1
      obtain ⟨T3, j3, j4, e3, r⟩ := ih (done ++ [p]) (by simpa using hd) T2 (.sh p.toD) j2' I2 (hle.trans le2) (fun q hq x hx => by
        rcases List.mem_append.mp hq with h | h
        · exact le2 q (by rw [← hd]; exact List.mem_append_left _ h) x (hall q h x hx)
        · have := List.mem_singleton.mp h
          subst this
          refine all2 x ?_
          obtain ⟨s, hs, hx⟩ := List.mem_flatMap.mp hx
          exact List.mem_flatMap.mpr ⟨s, hs, handS_mono G hle hp hs hx⟩) (by
        have e : N + 3 * 999 * (done ++ [p]).length = N + 3 * 999 * done.length + 3 * 999 := by rw [List.length_append, List.length_singleton]; omega
        rw [e]; exact b2)
      exact ⟨T3, j3, j4, by simp only [List.map_cons, forL, e1]; exact e3, r⟩
  obtain ⟨T', j2', j', e1, h1, h2, h3, h4⟩ := gen c [] rfl T j2 j I (.refl T) (by simp) (by simpa using hN)
  have := G.len
  exact ⟨T', j2', j', e1, h1, h2, h3, fun p hp => Nat.le_trans (h4 p hp) (by omega)⟩
/-- all turns -/
theorem lm_turns (k : Nat) (G : GCore c) (S : List Cell) : ∀ (ks : List Nat) (T : Tab) (N : Nat) (j2 : Slot) (j : Js), Inv [35] asg c T → lb c T N → N + 3 * 999 * 2 * ks.length ≤ LIM →
    ∃ T' j2' j', forL (fbody (prog tb (k + 3)) (.v 7) f36_b9) (ks.map fun (i : Nat) => D.int i) (stT c S j2 T j) = .next (stT c S j2' T' j') ∧ Inv [35] asg c T' ∧ Le c T T' ∧ (Full [35] asg c T' ∨ ks.length + miss [35] c T' ≤ miss [35] c T)
  | [], T, N, j2, j, I, _, _ => ⟨T, j2, j, rfl, I, .refl T, .inr (by simp)⟩
  | i :: ks, T, N, j2, j, I, hN, hl => by
    simp only [List.length_cons] at hl
    obtain ⟨T1, j21, j1, e1, I1, le1, all1, b1⟩ := lm_turn k G S I hN (by omega) j2 (j.1, j.2.1, .sh (.int i), j.2.2.2.1, j.2.2.2.2)
    obtain ⟨T2, j22, j2', e2, I2, le2, h2⟩ := lm_turns k G S ks T1 _ j21 j1 I1 b1 (by omega)
    refine ⟨T2, j22, j2', ?_, I2, le1.trans le2, ?_⟩
    · simp only [List.map_cons, forL]
      have hb : fbody (prog tb (k + 3)) (.v 7) f36_b9 (.int i) (stT c S j2 T j) = .next (stT c S j21 T1 j1) := by
        refine fbody_v (by simp [stT]) ?_
        unfold f36_b9
        exact seq_end (fr_go (s1 := stT c S j2 T (j.1, j.2.1, .sh (.int i), j.2.2.2.1, j.2.2.2.2)) (ds := c.map Proc.toD) (by simp! [stT, coreD]) e1)
      rw [hb]
      exact e2
    · rcases turn_step G I le1 all1 with h | h
      · exact .inl (full_le h le2)
      · rcases h2 with h2 | h2
        · exact .inl h2
        · right
          simp only [List.length_cons]
          omega
/-! ### the first loop -/
def stK (c : List Proc) (S : List Cell) (done : List Proc) (f : Proc → List Wd) (j2 j3 j4 : Slot) : Sta := ⟨[.sh (coreD c), .own (.M (namesD done) (listsD (done.map f))), j2, j3, j4, .no, .no, .no, .no, .no, .no, .no], S⟩
def stH (c : List Proc) (S : List Cell) (done : List Proc) (f : Proc → List Wd) (p : Proc) (j4 : Slot) (acc : List Wd) : Sta := stK c S done f (.sh p.toD) (.own (.L (acc.map .str))) j4
theorem lh_body (k : Nat) {p : Proc} (g : GProc c p) (S : List Cell) (done : List Proc) (f : Proc → List Wd) (j : Slot) (acc : List Wd) (x : St) (hg : GSt c p x) (hl : acc.length + (asg x).length ≤ LIM) :
    ∃ j', fbody (prog tb k) (.v 4) f36_b2 x.toD (stH c S done f p j acc) = .next (stH c S done f p j' (acc ++ asg x)) := by
  cases x with
  | set y e =>
    refine ⟨.sh (St.set y e).toD, ?_⟩
    have hc : ev (prog tb k) f36_c1 (stH c S done f p (.sh (St.set y e).toD) acc) = .ok (true, .lst [.str y]) (stH c S done f p (.sh (St.set y e).toD) acc) := by
      unfold f36_c1
      exact ev_compM [()] (fun _ => .tup [.str y, e.toD]) (fun _ => .str y) rfl (by simp! [stH, stK, St.toD]) (by decide) (fun _ _ => by simp! [cturn, stH, stK])
    simp only [St.toD, stH, stK] at hc
    have h1 : acc.length + 1 ≤ LIM := hl
    simp! [stH, stK, fbody, f36_b2, St.toD, hc, h1, asg, f36_c1r]
  | store y e f => exact ⟨.sh (St.store y e f).toD, by simp! [stH, stK, fbody, f36_b2, St.toD, asg]⟩
  | push e y =>
    have hy := arrs_len g hg
    have h1 : 1 + y.length ≤ LIM := lim_add1 hy
    have h3 : acc.length < LIM := hl
    exact ⟨.sh (St.push e y).toD, by simp! [stH, stK, fbody, f36_b2, St.toD, asg, h1, h3]⟩
  | pop z y =>
    have hy := arrs_len g hg.2
    have h1 : 1 + y.length ≤ LIM := lim_add1 hy
    have h3 : acc.length + 2 ≤ LIM := hl
    exact ⟨.sh (St.pop z y).toD, by simp! [stH, stK, fbody, f36_b2, St.toD, asg, h1, h3]⟩
  | pause => exact ⟨.sh St.pause.toD, by simp! [stH, stK, fbody, f36_b2, St.toD, asg]⟩
  | call f as ts =>
    have h3 : acc.length + ts.length ≤ LIM := hl
    exact ⟨.sh (St.call f as ts).toD, by simp! [stH, stK, fbody, f36_b2, St.toD, asg, h3, sD]⟩
  | whl cc b => exact ⟨.sh (St.whl cc b).toD, by simp! [stH, stK, fbody, f36_b2, St.toD, asg]⟩
  | ite cc b b2 => exact ⟨.sh (St.ite cc b b2).toD, by simp! [stH, stK, fbody, f36_b2, St.toD, asg]⟩
  | give e => exact ⟨.sh (St.give e).toD, by simp! [stH, stK, fbody, f36_b2, St.toD, asg]⟩
theorem lh_loop (k : Nat) (G : GCore c) (S : List Cell) : ∀ (xs done : List Proc) (j2 j3 j4 : Slot), done ++ xs = c →
    ∃ j2' j3' j4', forL (fbody (prog tb (k + 3)) (.v 2) f36_b3) (xs.map Proc.toD) (stK c S done (fun p => (flat p.body).flatMap asg) j2 j3 j4) = .next (stK c S c (fun p => (flat p.body).flatMap asg) j2' j3' j4')
  | [], done, j2, j3, j4, hd => by
    rw [List.append_nil] at hd
    subst hd
    exact ⟨j2, j3, j4, rfl⟩
  | p :: xs, done, j2, j3, j4, hd => by
    have hp : p ∈ c := by rw [← hd]; simp
    have g := G.ps p hp
    have e := lsts k g S
    obtain ⟨j, hloop⟩ := forL_appJ (body := fbody (prog tb (k + 3)) (.v 4) f36_b2) (toD := St.toD) (st := stH c S done (fun p => (flat p.body).flatMap asg) p) (f := asg) LIM (flat p.body) [] j4 (by simpa using asgs_lim g) fun j acc x hx h => lh_body (k + 3) g S done _ j acc x (g.st x hx) h
    have nd : p.name ∉ done.map (·.name) := by
      have := G.nd
      rw [← hd, List.map_append, List.map_cons] at this
      exact fun z => (List.nodup_append.mp this).2.2 _ z _ List.mem_cons_self rfl
    have hput := put_new done (done.map fun p => (flat p.body).flatMap asg) (q := p) ((flat p.body).flatMap asg) (by simp) nd (by
      have : done.length ≤ c.length := by rw [← hd, List.length_append]; omega
      exact Nat.lt_of_le_of_lt (Nat.le_trans this G.len) (by decide))
    have e4 : (done.map fun p => (flat p.body).flatMap asg) ++ [(flat p.body).flatMap asg] = (done ++ [p]).map fun p => (flat p.body).flatMap asg := by simp
    rw [e4] at hput
    obtain ⟨a1, a2, a3, h4⟩ := lh_loop k G S xs (done ++ [p]) (.sh p.toD) (.sh (.lst (((flat p.body).flatMap asg).map .str))) j (by simpa using hd)
    refine ⟨a1, a2, a3, ?_⟩
    simp only [List.map_cons, forL]
    have hb : fbody (prog tb (k + 3)) (.v 2) f36_b3 p.toD (stK c S done (fun p => (flat p.body).flatMap asg) j2 j3 j4) = .next (stK c S (done ++ [p]) (fun p => (flat p.body).flatMap asg) (.sh p.toD) (.sh (.lst (((flat p.body).flatMap asg).map .str))) j) := by
      refine fbody_v (by simp [stK]) ?_
      unfold f36_b3
      refine seq_go (s1 := stH c S done (fun p => (flat p.body).flatMap asg) p j4 []) (by simp! [stH, stK]) ?_
      refine seq_go (s1 := stH c S done (fun p => (flat p.body).flatMap asg) p j ((flat p.body).flatMap asg)) (fr_go (s1 := stH c S done (fun p => (flat p.body).flatMap asg) p j4 []) (by simp! [stH, stK, e]) hloop) ?_
      generalize hQ : (flat p.body).flatMap asg = Q at hput ⊢
      refine seq_end ?_
      simp! [stH, stK, hput]
    rw [hb]
    exact h4
theorem law_moves (k : Nat) (G : GCore c) (S : List Cell) : ∃ T, Phi tb (k + 4) 36 [coreD c] S = .ok true (.dct (namesD c) (listsD T)) S ∧ Inv [35] asg c T ∧ Full [35] asg c T := by
  have hbase : lb c (c.map fun p => (flat p.body).flatMap asg) 9000 := fun p hp => Nat.le_trans (Nat.le_add_right _ _) (base_bnd G [35] (fun p hp s hs => asg_len ((G.ps p hp).st s hs)) p hp)
  obtain ⟨a1, a2, a3, h1⟩ := lh_loop k G S c [] .no .no .no rfl
  obtain ⟨T, b1, b2, h2, I, _, h3⟩ := lm_turns k G S (List.range 20) _ 9000 a1 (a2, a3, .no, .no, .no) (base_inv G [35] asg) hbase (by rw [List.length_range]; decide)
  have F : Full [35] asg c T := by
    rcases h3 with h3 | h3
    · exact h3
    · have := miss_six (T := c.map fun p => (flat p.body).flatMap asg) (pre := [35]) G
      rw [List.length_range] at h3
      omega
  refine ⟨T, ?_, I, F⟩
  rw [phi_succ (fn := f36) rfl rfl (by decide)]
  show fin S.length (execs (prog tb (k + 3)) f36.body ⟨[.sh (coreD c), .no, .no, .no, .no, .no, .no, .no, .no, .no, .no, .no], S⟩) = _
  unfold f36
  refine fin_seq (s1 := stK c S [] (fun p => (flat p.body).flatMap asg) .no .no .no) (by simp! [stK, keysOk, mkDict, namesD, listsD]) ?_
  refine fin_seq (s1 := stK c S c (fun p => (flat p.body).flatMap asg) a1 a2 a3) (fr_go (s1 := stK c S [] (fun p => (flat p.body).flatMap asg) .no .no .no) (ds := c.map Proc.toD) (by simp! [stK, coreD]) h1) ?_
  refine fin_seq (s1 := stT c S b1 T b2) (fr_go (s1 := stK c S c (fun p => (flat p.body).flatMap asg) a1 a2 a3) (evit_rng (ds := [.int 20]) (by simp! [stK]) (range_one 20 (by decide))) h2) ?_
  simp! [stT]
end K62

set_option Elab.async false
set_option linter.all false
set_option maxRecDepth 100000
set_option maxHeartbeats 1000000
set_option autoImplicit false
/-! k59: the law's states, outcomes; the same. -/
namespace K62
open Z Co
local macro_rules
  | `(tactic| simp! [$ts,*]) => `(tactic| simp [plains, deeps, D.fit, D.plain, D.deep, lim_ble, lim_blt, cut_fromI, cut_toI, ex_set, ex_setT, ex_aug, ex_put, ex_retv, rt_lit, rt_g, rt_pr, rt_sl, rt_mp, rt_mu, rt_tup, rt_lst, rt_call, rt_callv, rt_notV, rt_bopV, rt_ite, rt_cell, rt_kin, rt_kix, rt_comp, rt_dct, ex_retN, ex_ife, ex_brk, ex_cnt, ex_pass, ex_exp, ex_rais, exs_nil, exs_cons, call_eq, glob_eq, kd_eq, atI_zero, atI_1, atI_2, atI_3, atI_4, atI_5, atI_8, wipeZ, backZ, appendC, extendC, popC, insertC, rd_v, rp_v, rp_pr, rd_lit, rd_g, rd_pr, rd_sl, rd_mp, rd_mu, rd_tup, rd_lst, rd_call, rd_callv, rd_notV, rd_bopV, rd_ite, rd_cell, rd_kin, rd_kix, rd_comp, rd_dct, rd_fn, ev, evs, evo, evrs, evt, evtb, evts, evit, evb, readV, Place.get, Place.set, Arg.get, getAll, Res.bind, Res.then, RS.seq, lift, prim, prim1, prim2, binD, cmpD, ix_lst, ix_tup, ix_str, ix_dct, slD, lenP, lenD, intD, negD, bindTo, assign, assigns, fin, der_non, der_bl, der_int, der_str, der_tup, der_lst, der_dct, der_ref, der_scr, der_fn, gc, fit_str, fit_int, D.eqv, truthD, Cell.view, isList, mutC, mrecv, mprim, mprim2, mprim3, augD, toCell, Option.bind, fromF, isiP, isiD, tupleD, listD, seqOf, noX, iterD, isSh, pix0, pix1, pix2, pix3, pix5, pix8, pder, iix0, iix1, ider, sder, eix0, kind_ne, eder, aix0, aix0e, aix1, ader, cder, $ts,*])
variable {c : List Proc} {T : Tab}
theorem law_states (k : Nat) {p : Proc} (g : GProc c p) (l : List Wd) (S : List Cell) : Phi tb (k + 2) 37 [p.toD, .lst (l.map .str)] S = .ok true (.lst (((p.items.filter fun i => decide (i.key ∈ l)) ++ p.places).map fun i => .str i.key)) S := by
  have h1 : ev (prog tb (k + 1)) f37_c1 ⟨[.sh p.toD, .sh (.lst (l.map .str)), .no], S⟩ = .ok (true, .lst ((p.items.filter fun i => decide (i.key ∈ l)).map fun i => .str i.key)) ⟨[.sh p.toD, .sh (.lst (l.map .str)), .no], S⟩ := by
    unfold f37_c1
    refine ev_compF p.items Itm.toD (fun i => decide (i.key ∈ l)) (fun i => .str i.key) rfl (by simp! []) (Nat.le_trans g.il (by decide)) fun i hi => ?_
    have e := law_key k i (g.ix i hi) S
    by_cases hm : i.key ∈ l
    · simp! [cturn, e, in_strs, hm]
    · simp! [cturn, e, in_strs, hm]
  have h2 : ev (prog tb (k + 1)) f37_c2 ⟨[.sh p.toD, .sh (.lst (l.map .str)), .no], S⟩ = .ok (true, .lst (p.places.map fun i => .str i.key)) ⟨[.sh p.toD, .sh (.lst (l.map .str)), .no], S⟩ := by
    unfold f37_c2
    refine ev_compM p.places Itm.toD (fun i => .str i.key) rfl (by simp! []) (Nat.le_trans g.pl (by decide)) fun i hi => ?_
    have e := law_key k i (g.px i hi) S
    simp! [cturn, e]
  have hl : (p.items.filter fun i => decide (i.key ∈ l)).length + p.places.length ≤ LIM := lim_le (by
    have := List.length_filter_le (fun i : Itm => decide (i.key ∈ l)) p.items
    have := g.il
    have := g.pl
    omega)
  rw [phi_succ (fn := f37) rfl rfl (by decide)]
  rw [List.map_append]
  generalize hA : p.items.filter (fun i => decide (i.key ∈ l)) = A at h1 hl ⊢
  simp! [f37, f37_c1r, f37_c2r, h1, h2, hl]
/-! ### the same -/
mutual
def smp : D → Bool
  | .int _ => true
  | .str _ => true
  | .tup ds => decide (ds.length ≤ LIM) && smps ds
  | _ => false
def smps : List D → Bool
  | [] => true
  | d :: r => smp d && smps r
end
theorem smps_mem : ∀ {l : List D} {d : D}, smps l = true → d ∈ l → smp d = true
  | x :: l, d, h, hd => by
    simp only [smps, Bool.and_eq_true] at h
    rcases List.mem_cons.mp hd with rfl | hd
    · exact h.1
    · exact smps_mem h.2 hd
theorem deeps_mem : ∀ {l : List D} {d : D}, d ∈ l → d.deep ≤ deeps l
  | x :: l, d, hd => by
    simp only [deeps]
    rcases List.mem_cons.mp hd with rfl | hd
    · exact Nat.le_max_left _ _
    · exact Nat.le_trans (deeps_mem hd) (Nat.le_max_right _ _)
theorem is_int (k : Nat) (S : List Cell) (z : Int) : Phi tb (k + 1) 28 [.int z] S = .ok false (.bl true) S := by
  rw [phi_succ (fn := f28) rfl rfl (by decide)]
  simp! [f28]
theorem allB_const : ∀ {α : Type} (l : List α), allB (l.map fun _ => D.bl true) = some true
  | _, [] => rfl
  | _, _ :: l => by simp [allB, allB_const l]
theorem same_D (S : List Cell) : ∀ (h k : Nat) (d : D), d.deep ≤ h → smp d = true → Phi tb (k + h + 2) 29 [d, d] S = .ok false (.bl true) S
  | h, k, .int z, _, _ => by
    have e := is_int (k + h) S z
    rw [phi_succ (fn := f29) rfl rfl (by decide)]
    simp! [f29, e]
  | h, k, .str x, _, _ => by
    rw [phi_succ (fn := f29) rfl rfl (by decide)]
    simp! [f29]
  | 0, k, .tup l, hh, _ => by simp [D.deep] at hh
  | h + 1, k, .tup l, hh, hs => by
    simp only [D.deep] at hh
    simp only [smp, Bool.and_eq_true, decide_eq_true_eq] at hs
    have ih : ∀ d ∈ l, Phi tb (k + h + 2) 29 [d, d] S = .ok false (.bl true) S := fun d hd => same_D S h k d (by have := deeps_mem hd; omega) (smps_mem hs.2 hd)
    have hc : ev (prog tb (k + h + 2)) f29_c1 ⟨[.sh (.tup l), .sh (.tup l), .no], S⟩ = .ok (true, .lst ((List.range l.length).map fun _ => .bl true)) ⟨[.sh (.tup l), .sh (.tup l), .no], S⟩ := by
      unfold f29_c1
      refine ev_compM (List.range l.length) (fun (i : Nat) => D.int i) (fun _ => .bl true) rfl ?_ (by rw [List.length_range]; exact hs.1) fun m hm => ?_
      · exact evit_rng (ds := [.int l.length]) (by simp! []) (range_one _ hs.1)
      · have hm1 : m < l.length := List.mem_range.mp hm
        have ai : atI l (m : Int) = some l[m] := by rw [atI_nat]; simp [hm1]
        have e := ih l[m] (List.getElem_mem hm1)
        generalize l[m] = d at ai e
        generalize (m : Int) = mi at ai
        simp! [cturn, ai, e]
    have ha := allB_const (List.range l.length)
    rw [show k + (h + 1) + 2 = (k + h + 2) + 1 by omega, phi_succ (fn := f29) rfl rfl (by decide)]
    generalize (List.range l.length).map (fun _ => D.bl true) = A at hc ha
    have hall : ev (prog tb (k + h + 2)) (.pr .allOf [f29_c1]) ⟨[.sh (.tup l), .sh (.tup l), .no], S⟩ = .ok (false, .bl true) ⟨[.sh (.tup l), .sh (.tup l), .no], S⟩ :=
      ev_pr1 (x := .val (.lst A)) (by rw [f29_c1r, hc]; rfl) rfl (by simp only [prim1, allD, ha])
    show fin S.length (execs (prog tb (k + h + 2)) f29.body ⟨[.sh (.tup l), .sh (.tup l), .no], S⟩) = _
    unfold f29
    refine fin_ret (o := false) (d := .bl true) (s1 := ⟨[.sh (.tup l), .sh (.tup l), .no], S⟩) (exec_if_true (s1 := ⟨[.sh (.tup l), .sh (.tup l), .no], S⟩) (by simp! []) (seq_go (s1 := ⟨[.sh (.tup l), .sh (.tup l), .no], S⟩) (by simp! []) (one_ret.trans (exec_ret hall)))) ?_
    simp [fin, gc]
theorem smps_str : ∀ l : List Wd, smps (l.map D.str) = true
  | [] => rfl
  | x :: l => by simp [smps, smp, smps_str l]
theorem same_sD (k : Nat) (S : List Cell) (l : List Wd) (h : l.length ≤ LIM) : Phi tb (k + 3) 29 [sD l, sD l] S = .ok false (.bl true) S :=
  same_D S 1 k (sD l) (by simp [sD, D.deep, deeps_str]) (by simp [sD, smp, smps_str, h])
end K62

set_option Elab.async false
set_option linter.all false
set_option maxRecDepth 100000
set_option maxHeartbeats 2000000
set_option autoImplicit false
set_option exponentiation.threshold 50000
/-! k59: what is drawn. -/
namespace K62
open Z Co
local macro_rules
  | `(tactic| simp! [$ts,*]) => `(tactic| simp [plains, deeps, D.fit, D.plain, D.deep, lim_ble, lim_blt, cut_fromI, cut_toI, ex_set, ex_setT, ex_aug, ex_put, ex_retv, rt_lit, rt_g, rt_pr, rt_sl, rt_mp, rt_mu, rt_tup, rt_lst, rt_call, rt_callv, rt_notV, rt_bopV, rt_ite, rt_cell, rt_kin, rt_kix, rt_comp, rt_dct, ex_retN, ex_ife, ex_brk, ex_cnt, ex_pass, ex_exp, ex_rais, exs_nil, exs_cons, call_eq, glob_eq, kd_eq, atI_zero, atI_1, atI_2, atI_3, atI_4, atI_5, atI_8, wipeZ, backZ, appendC, extendC, popC, insertC, rd_v, rp_v, rp_pr, rd_lit, rd_g, rd_pr, rd_sl, rd_mp, rd_mu, rd_tup, rd_lst, rd_call, rd_callv, rd_notV, rd_bopV, rd_ite, rd_cell, rd_kin, rd_kix, rd_comp, rd_dct, rd_fn, ev, evs, evo, evrs, evt, evtb, evts, evit, evb, readV, Place.get, Place.set, Arg.get, getAll, Res.bind, Res.then, RS.seq, lift, prim, prim1, prim2, binD, cmpD, ix_lst, ix_tup, ix_str, ix_dct, slD, lenP, lenD, intD, negD, bindTo, assign, assigns, fin, der_non, der_bl, der_int, der_str, der_tup, der_lst, der_dct, der_ref, der_scr, der_fn, gc, fit_str, fit_int, D.eqv, truthD, Cell.view, isList, mutC, mrecv, mprim, mprim2, mprim3, augD, toCell, Option.bind, fromF, isiP, isiD, tupleD, listD, seqOf, noX, iterD, isSh, pix0, pix1, pix2, pix3, pix5, pix8, pder, iix0, iix1, ider, sder, eix0, kind_ne, eder, aix0, aix0e, aix1, ader, cder, $ts,*])
structure DS where
  ns : List Int
  a : Int
  b : Int
  c : Int
def DS.cell (s : DS) : Cell := .L [.lst (s.ns.map .int), .int s.a, .int s.b, .int s.c]
theorem start_ok (k : Nat) (ns : List Int) : Phi tb (k + 1) 23 [.scr ns] [] = .ok false (.ref 0) [DS.cell ⟨ns, 0, 0, 0⟩] := by
  rw [phi_succ (fn := f23) rfl rfl (by decide)]
  simp [f23, execs, exec, ev, evs, evrs, rdArg, Arg.get, getAll, Res.bind, Res.then, RS.seq, lift, prim, prim1, listD, fin, gc, toCell, DS.cell, derefS, D.under, unders, LIM]
def cellv (st : DS) : Int := if 0 < st.ns.length then (if st.ns.getD (st.a % st.ns.length).toNat 0 < 0 then -st.ns.getD (st.a % st.ns.length).toNat 0 else st.ns.getD (st.a % st.ns.length).toNat 0) else 0
def mixv (st : DS) : Int := ((((cellv st + 1) * 48271 + (st.c + 1) * 69621) % 2147483647) * 16807 + cellv st / 97 + (st.c + 1)) % 2147483629
def dv (st : DS) (m : Int) : Int := if 0 < st.b then st.b % m else if 1000000000000000000 ≤ cellv st then cellv st % m else mixv st / 11 % m
def dst (st : DS) (m : Int) : DS := if 0 < st.b then ⟨st.ns, st.a, st.b / m, st.c + 1⟩ else if 1000000000000000000 ≤ cellv st then ⟨st.ns, st.a + 1, cellv st / m, st.c + 1⟩ else ⟨st.ns, st.a + 1, st.b, st.c + 1⟩
theorem dv_lo (st : DS) {m : Int} (h : 0 < m) : 0 ≤ dv st m := by
  unfold dv
  split
  · exact Int.emod_nonneg _ (by omega)
  · split <;> exact Int.emod_nonneg _ (by omega)
theorem dv_hi (st : DS) {m : Int} (h : 0 < m) : dv st m < m := by
  unfold dv
  split
  · exact Int.emod_lt_of_pos _ h
  · split <;> exact Int.emod_lt_of_pos _ h
theorem ix_script (st : DS) (h : 0 < st.ns.length) : atI (st.ns.map D.int) (st.a % st.ns.length) = some (.int (st.ns.getD (st.a % st.ns.length).toNat 0)) := by
  have h0 : 0 ≤ st.a % (st.ns.length : Int) := Int.emod_nonneg _ (by omega)
  have h1 : st.a % (st.ns.length : Int) < st.ns.length := Int.emod_lt_of_pos _ (by omega)
  unfold atI ixN
  rw [List.length_map, if_pos h0, if_pos h1]
  have h2 : (st.a % (st.ns.length : Int)).toNat < st.ns.length := by omega
  simp [List.getElem?_eq_getElem h2]
theorem div1 {m : Int} (h : 0 < m) (h2 : m < 1073741824) : divOk m = true := by simp [divOk, h, h2]
theorem at0 (a b c d : D) : atI [a, b, c, d] 0 = some a := rfl
theorem at1 (a b c d : D) : atI [a, b, c, d] 1 = some b := rfl
theorem at2 (a b c d : D) : atI [a, b, c, d] 2 = some c := rfl
theorem at3 (a b c d : D) : atI [a, b, c, d] 3 = some d := rfl
theorem put1 (a b c d x : D) : putC (.L [a, b, c, d]) (.int 1) x = some (.L [a, x, c, d]) := rfl
theorem put2 (a b c d x : D) : putC (.L [a, b, c, d]) (.int 2) x = some (.L [a, b, x, d]) := rfl
theorem put3 (a b c d x : D) : putC (.L [a, b, c, d]) (.int 3) x = some (.L [a, b, c, x]) := rfl
theorem mul_r {i j : Int} (h : j.natAbs < 18446744073709551616) : mulOk i j = true := by simp [mulOk, h]
theorem pow18 : (10 : Int) ^ Int.toNat 18 = 1000000000000000000 := by decide
theorem draw_ok (k : Nat) (st : DS) (R : List Cell) {m : Int} (h : 0 < m) (h2 : m < 1073741824) : Phi tb (k + 1) 24 [.ref 0, .int m] (st.cell :: R) = .ok false (.int (dv st m)) ((dst st m).cell :: R) := by
  rw [phi_succ (fn := f24) rfl rfl (by decide)]
  have hd := div1 h h2
  have m1 : ∀ i, mulOk i 48271 = true := fun i => mul_r (by decide)
  have m2 : ∀ i, mulOk i 69621 = true := fun i => mul_r (by decide)
  have m3 : ∀ i, mulOk i 16807 = true := fun i => mul_r (by decide)
  have d97 : divOk 97 = true := by decide
  have d11 : divOk 11 = true := by decide
  by_cases hb : 0 < st.b
  · simp [f24, execs, exec, ev, evs, evrs, evt, rdArg, rdPlace, Place.get, Place.set, Arg.get, getAll, Res.bind, Res.then, RS.seq, lift, prim, prim1, prim2, binD, cmpD, ixD, intD, bindTo, fin, gc, DS.cell, derefS, Cell.view, at3, at2, put3, put2, hb, hd, h, dv, dst, readV]
  · by_cases hn : 0 < st.ns.length
    · obtain ⟨q, ix, hq⟩ : ∃ q, atI (st.ns.map D.int) (st.a % st.ns.length) = some (.int q) ∧ (if q < 0 then -q else q) = cellv st := ⟨_, ix_script st hn, by unfold cellv; rw [if_pos hn]⟩
      by_cases hc : 1000000000000000000 ≤ cellv st
      · simp [f24, execs, exec, ev, evs, evrs, evt, rdArg, rdPlace, Place.get, Place.set, Arg.get, getAll, Res.bind, Res.then, RS.seq, lift, prim, prim1, prim2, binD, cmpD, ixD, intD, lenP, lenD, absD, bindTo, fin, gc, DS.cell, derefS, Cell.view, at0, at1, at3, at2, put1, put3, put2, hb, hd, h, hn, ix, hq, hc, dv, dst, readV, pow18]
      · simp [f24, execs, exec, ev, evs, evrs, evt, rdArg, rdPlace, Place.get, Place.set, Arg.get, getAll, Res.bind, Res.then, RS.seq, lift, prim, prim1, prim2, binD, cmpD, ixD, intD, lenP, lenD, absD, bindTo, fin, gc, DS.cell, derefS, Cell.view, at0, at1, at3, at2, put1, put3, put2, hb, hd, h, hn, ix, hq, hc, dv, dst, readV, pow18, m1, m2, m3, d97, d11, mixv]
    · have hq : cellv st = 0 := by unfold cellv; rw [if_neg hn]
      simp [f24, execs, exec, ev, evs, evrs, evt, rdArg, rdPlace, Place.get, Place.set, Arg.get, getAll, Res.bind, Res.then, RS.seq, lift, prim, prim1, prim2, binD, cmpD, ixD, intD, lenP, lenD, absD, bindTo, fin, gc, DS.cell, derefS, Cell.view, at0, at1, at3, at2, put1, put3, put2, hb, hd, h, hn, hq, dv, dst, readV, pow18, m1, m2, m3, d97, d11, mixv]
theorem okS_st (st : DS) : okS [st.cell] = true := by
  have h : ∀ (n : Nat) (l : List Int), unders n (l.map D.int) = true := fun n l => by
    induction l with
    | nil => rfl
    | cons a l ih => simp only [List.map_cons, unders, ih]; rfl
  simp [okS, DS.cell, Cell.under, unders, D.under, h]
/-- a draw -/
theorem draw (k : Nat) (st : DS) (R : List Cell) (m : Nat) (h : 0 < m) (h2 : m < 1073741824) : ∃ (v : Nat) (st' : DS), v < m ∧ Phi tb (k + 1) 24 [.ref 0, .int m] (st.cell :: R) = .ok false (.int v) (st'.cell :: R) := by
  have h1 := dv_lo st (m := (m : Int)) (by omega)
  have h3 := dv_hi st (m := (m : Int)) (by omega)
  refine ⟨(dv st m).toNat, dst st m, by omega, ?_⟩
  rw [draw_ok k st R (by omega) (by omega)]
  congr 1
  congr 1
  omega
theorem drawI (k : Nat) (st : DS) (R : List Cell) (m : Int) (h : 0 < m) (h2 : m < 1073741824) : ∃ (v : Nat) (st' : DS), (v : Int) < m ∧ Phi tb (k + 1) 24 [.ref 0, .int m] (st.cell :: R) = .ok false (.int v) (st'.cell :: R) := by
  have h1 := dv_lo st h
  have h3 := dv_hi st h
  refine ⟨(dv st m).toNat, dst st m, by omega, ?_⟩
  rw [draw_ok k st R h h2]
  congr 1
  congr 1
  omega
theorem one_of (k : Nat) (st : DS) (R : List Cell) (l : List D) (h : 0 < l.length) (h2 : l.length < 1073741824) : ∃ (d : D) (st' : DS), d ∈ l ∧ Phi tb (k + 2) 25 [.ref 0, .lst l] (st.cell :: R) = .ok false d (st'.cell :: R) := by
  obtain ⟨v, st', hv, e⟩ := draw k st R l.length h h2
  have ha : atI l (v : Int) = some l[v] := by rw [atI_nat, List.getElem?_eq_getElem hv]
  refine ⟨l[v], st', List.getElem_mem hv, ?_⟩
  rw [phi_succ (fn := f25) rfl rfl (by decide)]
  generalize l[v] = d at ha
  generalize (v : Int) = vi at ha e
  simp! [f25, e, ha]
/-- of texts -/
theorem one_str (k : Nat) (st : DS) (R : List Cell) (l : List Wd) (h : 0 < l.length) (h2 : l.length < 1073741824) : ∃ (x : Wd) (st' : DS), x ∈ l ∧ Phi tb (k + 2) 25 [.ref 0, .lst (l.map .str)] (st.cell :: R) = .ok false (.str x) (st'.cell :: R) := by
  obtain ⟨d, st', hd, e⟩ := one_of k st R (l.map .str) (by simpa using h) (by simpa using h2)
  obtain ⟨x, hx, rfl⟩ := List.mem_map.mp hd
  exact ⟨x, st', hx, e⟩
def stS (l acc : List D) (j : Slot) (st : DS) (R : List Cell) : Sta := ⟨[.sh (.ref 0), .sh (.lst l), .own (.L acc), j], st.cell :: R⟩
theorem insert_perm {α : Type} (l : List α) (n : Nat) (x : α) : (l.take n ++ [x] ++ l.drop n).Perm (l ++ [x]) := by
  have h : (l.take n ++ ([x] ++ l.drop n)).Perm (l.take n ++ (l.drop n ++ [x])) := List.Perm.append_left _ List.perm_append_comm
  rw [List.append_assoc]
  refine h.trans ?_
  rw [← List.append_assoc, List.take_append_drop]
theorem shuf_loop (k : Nat) (l : List D) : ∀ (xs acc : List D) (j : Slot) (st : DS) (R : List Cell), acc.length + xs.length ≤ 1000 → ∃ (r : List D) (j' : Slot) (st' : DS), r.Perm (acc ++ xs) ∧ forL (fbody (prog tb (k + 1)) (.v 3) f26_b1) xs (stS l acc j st R) = .next (stS l r j' st' R)
  | [], acc, j, st, R, _ => ⟨acc, j, st, by simp, rfl⟩
  | x :: xs, acc, j, st, R, hl => by
    simp only [List.length_cons] at hl
    obtain ⟨v, st1, hv, e⟩ := draw k st R (acc.length + 1) (by omega) (by omega)
    have e : Phi tb (k + 1) 24 [.ref 0, .int ((acc.length : Int) + 1)] (st.cell :: R) = .ok false (.int v) (st1.cell :: R) := by
      have : ((acc.length + 1 : Nat) : Int) = (acc.length : Int) + 1 := by omega
      rw [← this]; exact e
    obtain ⟨r, j', st2, h1, h2⟩ := shuf_loop k l xs (acc.take v ++ [x] ++ acc.drop v) (.sh x) st1 R (by simp; omega)
    refine ⟨r, j', st2, h1.trans ?_, ?_⟩
    · have := (insert_perm acc v x).append_right xs
      refine this.trans ?_
      simp
    · have hb : fbody (prog tb (k + 1)) (.v 3) f26_b1 x (stS l acc j st R) = .next (stS l (acc.take v ++ [x] ++ acc.drop v) (.sh x) st1 R) := by
        have h4 : acc.length < LIM := lim_lt (by omega)
        have h5 : (v : Int) < 4611686018427387904 := by omega
        have h6 : (0 : Int) ≤ v := by omega
        have h7 : (v : Int).toNat = v := by omega
        generalize (v : Int) = vi at e h5 h6 h7
        simp! [stS, fbody, f26_b1, e, h4, h5, h6, h7]
      simp only [forL, hb]
      exact h2
theorem shuffled (k : Nat) (l : List D) (st : DS) (R : List Cell) (hl : l.length ≤ 1000) : ∃ (r : List D) (st' : DS), r.Perm l ∧ Phi tb (k + 2) 26 [.ref 0, .lst l] (st.cell :: R) = .ok true (.lst r) (st'.cell :: R) := by
  obtain ⟨r, j, st', h1, h2⟩ := shuf_loop k l l [] .no st R (by simpa using hl)
  refine ⟨r, st', by simpa using h1, ?_⟩
  rw [phi_succ (fn := f26) rfl rfl (by decide)]
  show fin (st.cell :: R).length (execs (prog tb (k + 1)) f26.body ⟨[.sh (.ref 0), .sh (.lst l), .no, .no], st.cell :: R⟩) = _
  unfold f26
  refine fin_seq (s1 := stS l [] .no st R) (by simp! [stS]) ?_
  refine fin_seq (s1 := stS l r j st' R) (fr_go (s1 := stS l [] .no st R) (by simp! [stS]) h2) ?_
  simp! [stS]
end K62

set_option Elab.async false
set_option linter.all false
set_option maxRecDepth 100000
set_option maxHeartbeats 2000000
set_option autoImplicit false
/-! k59: words and heads. -/
namespace K62
open Z Co
local macro_rules
  | `(tactic| simp! [$ts,*]) => `(tactic| simp [plains, deeps, D.fit, D.plain, D.deep, lim_ble, lim_blt, cut_fromI, cut_toI, ex_set, ex_setT, ex_aug, ex_put, ex_retv, rt_lit, rt_g, rt_pr, rt_sl, rt_mp, rt_mu, rt_tup, rt_lst, rt_call, rt_callv, rt_notV, rt_bopV, rt_ite, rt_cell, rt_kin, rt_kix, rt_comp, rt_dct, ex_retN, ex_ife, ex_brk, ex_cnt, ex_pass, ex_exp, ex_rais, exs_nil, exs_cons, call_eq, glob_eq, kd_eq, atI_zero, atI_1, atI_2, atI_3, atI_4, atI_5, atI_8, wipeZ, backZ, appendC, extendC, popC, insertC, rd_v, rp_v, rp_pr, rd_lit, rd_g, rd_pr, rd_sl, rd_mp, rd_mu, rd_tup, rd_lst, rd_call, rd_callv, rd_notV, rd_bopV, rd_ite, rd_cell, rd_kin, rd_kix, rd_comp, rd_dct, rd_fn, ev, evs, evo, evrs, evt, evtb, evts, evit, evb, readV, Place.get, Place.set, Arg.get, getAll, Res.bind, Res.then, RS.seq, lift, prim, prim1, prim2, binD, cmpD, ix_lst, ix_tup, ix_str, ix_dct, slD, lenP, lenD, intD, negD, bindTo, assign, assigns, fin, der_non, der_bl, der_int, der_str, der_tup, der_lst, der_dct, der_ref, der_scr, der_fn, gc, fit_str, fit_int, D.eqv, truthD, Cell.view, isList, mutC, mrecv, mprim, mprim2, mprim3, augD, toCell, Option.bind, fromF, isiP, isiD, tupleD, listD, seqOf, noX, iterD, isSh, pix0, pix1, pix2, pix3, pix5, pix8, pder, iix0, iix1, ider, sder, eix0, kind_ne, eder, aix0, aix0e, aix1, ader, cder, $ts,*])
abbrev abc : List Nat := [97, 98, 99, 100, 101, 102, 103, 104, 105, 106, 107, 108, 109, 110, 111, 112, 113, 114, 115, 116, 117, 118, 119, 120, 121, 122]
theorem abc_at : ∀ n < 26, atI abc ((n : Nat) : Int) = some (97 + n) := by decide
def sgn (v1 v2 m : Nat) : Nat := 97 + (v1 + m * (1 + 2 * v2)) % 26
def wrd (v1 v2 v3 : Nat) (b : Bool) (m : Nat) : Wd := if b then [113, 120, 122].take v3 ++ [sgn v1 v2 m] else [sgn v1 v2 m] ++ [113, 120, 122].take v3
structure WOk (ws : List Wd) (n : Nat) : Prop where
  len : ws.length = n
  nd : ws.Nodup
  short : ∀ w ∈ ws, w.length ≤ 4
  az : ∀ w ∈ ws, ∀ x ∈ w, 97 ≤ x ∧ x ≤ 122
  ne : ∀ w ∈ ws, w ≠ []
theorem sgn_inj {v1 v2 m m' : Nat} (h2 : v2 < 6) (hm : m < 7) (hm' : m' < 7) (h : sgn v1 v2 m = sgn v1 v2 m') : m = m' := by
  unfold sgn at h
  have : v2 = 0 ∨ v2 = 1 ∨ v2 = 2 ∨ v2 = 3 ∨ v2 = 4 ∨ v2 = 5 := by omega
  rcases this with rfl | rfl | rfl | rfl | rfl | rfl <;> omega
theorem wrd_ok {v1 v2 v3 : Nat} (b : Bool) (h2 : v2 < 6) {n : Nat} (hn : n ≤ 7) : WOk ((List.range n).map (wrd v1 v2 v3 b)) n := by
  have hsg : ∀ m, 97 ≤ sgn v1 v2 m ∧ sgn v1 v2 m ≤ 122 := fun m => by unfold sgn; omega
  have hpre : ∀ x ∈ ([113, 120, 122] : List Nat).take v3, 97 ≤ x ∧ x ≤ 122 := fun x hx => by
    have := List.mem_of_mem_take hx
    simp at this
    omega
  have hlen : (([113, 120, 122] : List Nat).take v3).length ≤ 3 := by rw [List.length_take]; exact Nat.min_le_right _ _
  refine ⟨by simp, ?_, ?_, ?_, ?_⟩
  · have inj : ∀ m m', m < 7 → m' < 7 → wrd v1 v2 v3 b m = wrd v1 v2 v3 b m' → m = m' := fun m m' h h' e => by
      unfold wrd at e
      cases b with
      | true =>
        simp only [if_true] at e
        have := List.append_cancel_left e
        exact sgn_inj h2 h h' (by simpa using this)
      | false =>
        simp only [Bool.false_eq_true, if_false, List.singleton_append, List.cons.injEq] at e
        exact sgn_inj h2 h h' e.1
    rw [List.nodup_iff_pairwise_ne, List.pairwise_map]
    refine List.Pairwise.imp_of_mem ?_ (List.nodup_iff_pairwise_ne.mp List.nodup_range)
    intro a b' ha hb hne e
    exact hne (inj a b' (by have := List.mem_range.mp ha; omega) (by have := List.mem_range.mp hb; omega) e)
  · intro w hw
    obtain ⟨m, _, rfl⟩ := List.mem_map.mp hw
    unfold wrd
    split <;> simp only [List.length_append, List.length_singleton] <;> omega
  · intro w hw x hx
    obtain ⟨m, _, rfl⟩ := List.mem_map.mp hw
    unfold wrd at hx
    split at hx
    · rcases List.mem_append.mp hx with hx | hx
      · exact hpre x hx
      · rw [List.mem_singleton.mp hx]; exact hsg m
    · rcases List.mem_append.mp hx with hx | hx
      · rw [List.mem_singleton.mp hx]; exact hsg m
      · exact hpre x hx
  · intro w hw
    obtain ⟨m, _, rfl⟩ := List.mem_map.mp hw
    unfold wrd
    split <;> simp
def stW (n v1 v2 v3 : Nat) (st : DS) (R : List Cell) : Sta := ⟨[.sh (.ref 0), .sh (.int n), .sh (.str abc), .sh (.int v1), .sh (.int (1 + 2 * (v2 : Int))), .sh (.str (([113, 120, 122] : List Nat).take v3)), .no], st.cell :: R⟩
theorem sgn_at (v1 v2 m : Nat) : atI abc (((v1 : Int) + (m : Int) * (1 + 2 * (v2 : Int))) % 26) = some (sgn v1 v2 m) := by
  have e : ((v1 : Int) + (m : Int) * (1 + 2 * (v2 : Int))) % 26 = (((v1 + m * (1 + 2 * v2)) % 26 : Nat) : Int) := by
    rw [Int.natCast_emod, Int.natCast_add, Int.natCast_mul, Int.natCast_add, Int.natCast_mul]
    rfl
  rw [e, abc_at _ (Nat.mod_lt _ (by decide))]
  rfl
theorem words (k : Nat) (st : DS) (R : List Cell) (n : Nat) (hn : n ≤ 7) : ∃ (ws : List Wd) (st' : DS), WOk ws n ∧ Phi tb (k + 2) 27 [.ref 0, .int n] (st.cell :: R) = .ok true (.lst (ws.map .str)) (st'.cell :: R) := by
  obtain ⟨v1, st1, h1, e1⟩ := drawI k st R 26 (by decide) (by decide)
  obtain ⟨v2, st2, h2, e2⟩ := drawI k st1 R 6 (by decide) (by decide)
  obtain ⟨v3, st3, h3, e3⟩ := drawI k st2 R 4 (by decide) (by decide)
  obtain ⟨v4, st4, h4, e4⟩ := drawI k st3 R 2 (by decide) (by decide)
  have hmul : ∀ m : Nat, m < 7 → mulOk (m : Int) (1 + 2 * (v2 : Int)) = true := fun m hm => by
    unfold mulOk
    have : decide ((m : Int).natAbs < 18446744073709551616) = true := by rw [decide_eq_true_eq]; omega
    rw [this]
    rfl
  have hmul2 : mulOk 2 (v2 : Int) = true := by
    unfold mulOk
    rfl
  have hn2 : n ≤ LIM := lim_le (by omega)
  have hl3 : (([113, 120, 122] : List Nat).take v3).length ≤ 3 := by rw [List.length_take]; exact Nat.min_le_right _ _
  have cond : ∀ (S' : List Cell), evit (prog tb (k + 1)) (.rng [(.v 1)]) (stW n v1 v2 v3 st4 R) = .ok ((List.range n).map fun (i : Nat) => D.int i) (stW n v1 v2 v3 st4 R) := fun _ => evit_rng (ds := [.int n]) (by simp! [stW]) (range_one n hn2)
  have c1 : ev (prog tb (k + 1)) f27_c1 (stW n v1 v2 v3 st4 R) = .ok (true, .lst ((List.range n).map fun m => .str (wrd v1 v2 v3 true m))) (stW n v1 v2 v3 st4 R) := by
    unfold f27_c1
    refine ev_compM (List.range n) (fun (i : Nat) => D.int i) (fun m => .str (wrd v1 v2 v3 true m)) rfl (cond []) (by rw [List.length_range]; exact hn2) fun m hm => ?_
    have hm : m < n := List.mem_range.mp hm
    have a := sgn_at v1 v2 m
    have b := hmul m (by omega)
    have l1 : (([113, 120, 122] : List Nat).take v3).length + 1 ≤ LIM := lim_le (by omega)
    simp only [wrd, if_true]
    generalize ([113, 120, 122] : List Nat).take v3 = pr at l1 ⊢
    generalize sgn v1 v2 m = sg at a ⊢
    generalize abc = ab at a
    generalize (m : Int) = mi at a b
    generalize (1 + 2 * (v2 : Int)) = sp at a b
    generalize (v1 : Int) = w1 at a
    simp! [cturn, a, b, l1]
  have c2 : ev (prog tb (k + 1)) f27_c2 (stW n v1 v2 v3 st4 R) = .ok (true, .lst ((List.range n).map fun m => .str (wrd v1 v2 v3 false m))) (stW n v1 v2 v3 st4 R) := by
    unfold f27_c2
    refine ev_compM (List.range n) (fun (i : Nat) => D.int i) (fun m => .str (wrd v1 v2 v3 false m)) rfl (cond []) (by rw [List.length_range]; exact hn2) fun m hm => ?_
    have hm : m < n := List.mem_range.mp hm
    have a := sgn_at v1 v2 m
    have b := hmul m (by omega)
    have l1 : 1 + (([113, 120, 122] : List Nat).take v3).length ≤ LIM := lim_le (by omega)
    simp only [wrd, Bool.false_eq_true, if_false]
    generalize ([113, 120, 122] : List Nat).take v3 = pr at l1 ⊢
    generalize sgn v1 v2 m = sg at a ⊢
    generalize abc = ab at a
    generalize (m : Int) = mi at a b
    generalize (1 + 2 * (v2 : Int)) = sp at a b
    generalize (v1 : Int) = w1 at a
    simp! [cturn, a, b, l1]
  refine ⟨(List.range n).map (wrd v1 v2 v3 (decide (v4 = 0))), st4, wrd_ok _ (by omega) hn, ?_⟩
  rw [phi_succ (fn := f27) rfl rfl (by decide)]
  show fin (st.cell :: R).length (execs (prog tb (k + 1)) f27.body ⟨[.sh (.ref 0), .sh (.int n), .no, .no, .no, .no, .no], st.cell :: R⟩) = _
  unfold f27
  refine fin_seq (s1 := ⟨[.sh (.ref 0), .sh (.int n), .sh (.str abc), .no, .no, .no, .no], st.cell :: R⟩) (by simp! []) ?_
  refine fin_seq (s1 := ⟨[.sh (.ref 0), .sh (.int n), .sh (.str abc), .sh (.int v1), .no, .no, .no], st1.cell :: R⟩) (by generalize abc = ab; simp! [e1]) ?_
  refine fin_seq (s1 := ⟨[.sh (.ref 0), .sh (.int n), .sh (.str abc), .sh (.int v1), .sh (.int (1 + 2 * (v2 : Int))), .no, .no], st2.cell :: R⟩) (by generalize abc = ab; simp! [e2, hmul2]) ?_
  refine fin_seq (s1 := stW n v1 v2 v3 st3 R) (by unfold stW; generalize abc = ab; simp! [e3]) ?_
  have hcond : evt (prog tb (k + 1)) (.cmp .Eq (.call 24 [(.v 0), (.lit (.int 2))]) (.lit (.int 0))) (stW n v1 v2 v3 st3 R) = .ok (decide (v4 = 0)) (stW n v1 v2 v3 st4 R) := by
    have hz : ((v4 : Int) == 0) = decide (v4 = 0) := by
      by_cases h : v4 = 0
      · simp [h]
      · simp [h]
    generalize hv : decide (v4 = 0) = bb at hz
    generalize (v4 : Int) = w4 at e4 hz
    simp! [stW, e4, hz]
  by_cases hv : v4 = 0
  · have hd : decide (v4 = 0) = true := by simp [hv]
    rw [hd] at hcond ⊢
    refine fin_ret (o := true) (d := .lst ((List.range n).map fun m => .str (wrd v1 v2 v3 true m))) (s1 := stW n v1 v2 v3 st4 R) (exec_if_true hcond (one_ret.trans ?_)) ?_
    · rw [f27_c1t, c1]; rfl
    · simp [fin, gc, stW, Function.comp_def]
  · have hd : decide (v4 = 0) = false := by simp [hv]
    rw [hd] at hcond ⊢
    refine fin_seq (s1 := stW n v1 v2 v3 st4 R) (exec_if_false hcond exs_nil) ?_
    refine fin_ret (o := true) (d := .lst ((List.range n).map fun m => .str (wrd v1 v2 v3 false m))) (s1 := stW n v1 v2 v3 st4 R) ?_ ?_
    · rw [f27_c2t, c2]; rfl
    · simp [fin, gc, stW, Function.comp_def]
end K62

set_option Elab.async false
set_option linter.all false
set_option maxRecDepth 100000
set_option maxHeartbeats 2000000
set_option autoImplicit false
/-! k59: heads. -/
namespace K62
open Z Co
local macro_rules
  | `(tactic| simp! [$ts,*]) => `(tactic| simp [plains, deeps, D.fit, D.plain, D.deep, lim_ble, lim_blt, cut_fromI, cut_toI, ex_set, ex_setT, ex_aug, ex_put, ex_retv, rt_lit, rt_g, rt_pr, rt_sl, rt_mp, rt_mu, rt_tup, rt_lst, rt_call, rt_callv, rt_notV, rt_bopV, rt_ite, rt_cell, rt_kin, rt_kix, rt_comp, rt_dct, ex_retN, ex_ife, ex_brk, ex_cnt, ex_pass, ex_exp, ex_rais, exs_nil, exs_cons, call_eq, glob_eq, kd_eq, atI_zero, atI_1, atI_2, atI_3, atI_4, atI_5, atI_8, wipeZ, backZ, appendC, extendC, popC, insertC, rd_v, rp_v, rp_pr, rd_lit, rd_g, rd_pr, rd_sl, rd_mp, rd_mu, rd_tup, rd_lst, rd_call, rd_callv, rd_notV, rd_bopV, rd_ite, rd_cell, rd_kin, rd_kix, rd_comp, rd_dct, rd_fn, ev, evs, evo, evrs, evt, evtb, evts, evit, evb, readV, Place.get, Place.set, Arg.get, getAll, Res.bind, Res.then, RS.seq, lift, prim, prim1, prim2, binD, cmpD, ix_lst, ix_tup, ix_str, ix_dct, slD, lenP, lenD, intD, negD, bindTo, assign, assigns, fin, der_non, der_bl, der_int, der_str, der_tup, der_lst, der_dct, der_ref, der_scr, der_fn, gc, fit_str, fit_int, D.eqv, truthD, Cell.view, isList, mutC, mrecv, mprim, mprim2, mprim3, augD, toCell, Option.bind, fromF, isiP, isiD, tupleD, listD, seqOf, noX, iterD, isSh, pix0, pix1, pix2, pix3, pix5, pix8, pder, iix0, iix1, ider, sder, eix0, kind_ne, eder, aix0, aix0e, aix1, ader, cder, $ts,*])
abbrev kitems : Wd := [105, 116, 101, 109, 115]
abbrev kplaces : Wd := [112, 108, 97, 99, 101, 115]
abbrev kresults : Wd := [114, 101, 115, 117, 108, 116, 115]
abbrev kresult : Wd := [114, 101, 115, 117, 108, 116]
abbrev kints : Wd := [105, 110, 116, 115]
abbrev karrays : Wd := [97, 114, 114, 97, 121, 115]
structure Hd where
  name : Wd
  items : List Itm
  places : List Itm
  results : List Wd
def Hd.vars (h : Hd) : List Itm := h.items ++ h.places
def Hd.ints (h : Hd) : List Wd := (h.vars.filter fun i => !i.arr).map (·.x)
def Hd.arrs (h : Hd) : List Wd := (h.vars.filter (·.arr)).map (·.x)
def headD (h : Hd) : D := .dct [.str kname, .str kitems, .str kplaces, .str kresults, .str kints, .str karrays] [.str h.name, .lst (h.items.map Itm.toD), .lst (h.places.map Itm.toD), sD h.results, .lst (h.ints.map .str), .lst (h.arrs.map .str)]
theorem hix1 (h : Hd) : ixD (headD h) (.str kname) = some (false, .str h.name) := rfl
theorem hix2 (h : Hd) : ixD (headD h) (.str kitems) = some (false, .lst (h.items.map Itm.toD)) := rfl
theorem hix3 (h : Hd) : ixD (headD h) (.str kplaces) = some (false, .lst (h.places.map Itm.toD)) := rfl
theorem hix4 (h : Hd) : ixD (headD h) (.str kresults) = some (false, sD h.results) := rfl
theorem hix5 (h : Hd) : ixD (headD h) (.str kints) = some (false, .lst (h.ints.map .str)) := rfl
theorem hix6 (h : Hd) : ixD (headD h) (.str karrays) = some (false, .lst (h.arrs.map .str)) := rfl
theorem hder (S : List Cell) (h : Hd) : derefS S (headD h) = some (headD h) := rfl
structure GHd (h : Hd) : Prop where
  nm : h.name.length ≤ 99
  i0 : 1 ≤ h.items.length
  il : h.items.length ≤ 3
  pl : h.places.length = 4
  rl : h.results = [] ∨ h.results = [kresult]
  nd : (h.vars.map (·.x)).Nodup
  xl : ∀ i ∈ h.vars, i.x.length ≤ 99
  ok : ∀ i ∈ h.vars, i.x ≠ [] ∧ ∀ ch ∈ i.x, ch = 46 ∨ (97 ≤ ch ∧ ch ≤ 122)
  nr : ∀ i ∈ h.vars, i.x ≠ kresult
  ia : (h.items.filter (·.arr)).length ≤ 1
  a2 : 2 ≤ h.arrs.length
  a3 : h.arrs.length ≤ 3
  n1 : 1 ≤ h.ints.length
  n4 : h.ints.length ≤ 4
theorem perm_map {α β : Type} (f : α → β) : ∀ {r m : List β}, r.Perm m → ∀ {l : List α}, m = l.map f → ∃ l' : List α, l'.Perm l ∧ r = l'.map f := fun {r m} h => by
  induction h with
  | nil =>
    intro l e
    exact ⟨l, List.Perm.refl l, e⟩
  | @cons x r' m' h ih =>
    intro l e
    cases l with
    | nil => cases e
    | cons a l =>
      simp only [List.map_cons, List.cons.injEq] at e
      obtain ⟨l', h1, h2⟩ := ih e.2
      exact ⟨a :: l', h1.cons a, by simp [h2, e.1]⟩
  | swap x y l0 =>
    intro l e
    cases l with
    | nil => cases e
    | cons a l =>
      cases l with
      | nil => simp at e
      | cons b l =>
        simp only [List.map_cons, List.cons.injEq] at e
        exact ⟨b :: a :: l, List.Perm.swap a b l, by simp [e.1, e.2.1, e.2.2]⟩
  | trans h1 h2 ih1 ih2 =>
    intro l e
    obtain ⟨l1, a1, a2⟩ := ih2 e
    obtain ⟨l2, b1, b2⟩ := ih1 a2
    exact ⟨l2, b1.trans a1, b2⟩
theorem at6 (a b c d e f g : D) (r : List D) : atI (a :: b :: c :: d :: e :: f :: g :: r) 6 = some g := by have := atI_nat (a :: b :: c :: d :: e :: f :: g :: r) 6; simpa using this
theorem mk4 (a b c d : D) : mkDict [.str kname, .str kitems, .str kplaces, .str kresults] [a, b, c, d] [] [] = ([.str kname, .str kitems, .str kplaces, .str kresults], [a, b, c, d]) := rfl
theorem put5 (a b c d x : D) : putC (.M [.str kname, .str kitems, .str kplaces, .str kresults] [a, b, c, d]) (.str kints) x = some (.M [.str kname, .str kitems, .str kplaces, .str kresults, .str kints] [a, b, c, d, x]) := rfl
theorem put6 (a b c d e x : D) : putC (.M [.str kname, .str kitems, .str kplaces, .str kresults, .str kints] [a, b, c, d, e]) (.str karrays) x = some (.M [.str kname, .str kitems, .str kplaces, .str kresults, .str kints, .str karrays] [a, b, c, d, e, x]) := rfl
theorem head_good {w0 w1 w2 w3 w4 w5 w6 name : Wd} (hw : WOk [w0, w1, w2, w3, w4, w5, w6] 7) (hn : name.length ≤ 99) {its pls : List Itm} (hi : its.Perm [⟨false, w0⟩, ⟨false, w1⟩, ⟨true, w2⟩]) (hp : pls.Perm [⟨false, w3⟩, ⟨false, w4 ++ [46] ++ w0⟩, ⟨true, w5⟩, ⟨true, w6⟩]) {v : Nat} (hv : v < 3) {rs : List Wd} (hr : rs = [] ∨ rs = [kresult]) :
    GHd ⟨name, its.drop v, pls, rs⟩ := by
  have hall : ∀ {i : Itm}, i ∈ its.drop v ++ pls → i ∈ [(⟨false, w0⟩ : Itm), ⟨false, w1⟩, ⟨true, w2⟩, ⟨false, w3⟩, ⟨false, w4 ++ [46] ++ w0⟩, ⟨true, w5⟩, ⟨true, w6⟩] := fun {i} h => by
    rcases List.mem_append.mp h with h | h
    · have := hi.mem_iff.mp (List.mem_of_mem_drop h)
      simp at this ⊢
      rcases this with h | h | h <;> simp [h]
    · have := hp.mem_iff.mp h
      simp at this ⊢
      rcases this with h | h | h | h <;> simp [h]
  have hsh : ∀ w ∈ [w0, w1, w2, w3, w4, w5, w6], w.length ≤ 4 := hw.short
  have haz := hw.az
  have hne := hw.ne
  simp only [List.mem_cons, List.not_mem_nil, or_false, forall_eq_or_imp, forall_eq] at hsh haz hne
  have hdot : ∀ w ∈ [w0, w1, w2, w3, w4, w5, w6], w ≠ w4 ++ [46] ++ w0 := fun w hw' e => by
    have h46 : 46 ∈ w := by rw [e]; simp
    have := hw.az w hw' 46 h46
    omega
  have hnd := hw.nd
  simp only [List.nodup_cons, List.mem_cons, List.not_mem_nil, or_false, not_or, not_false_eq_true, List.nodup_nil, and_true] at hnd
  have hd0 := hdot w0 (by simp)
  have hd1 := hdot w1 (by simp)
  have hd2 := hdot w2 (by simp)
  have hd3 := hdot w3 (by simp)
  have hd5 := hdot w5 (by simp)
  have hd6 := hdot w6 (by simp)
  have nd7 : ([w0, w1, w2, w3, w4 ++ [46] ++ w0, w5, w6] : List Wd).Nodup := by
    simp only [List.nodup_cons, List.mem_cons, List.not_mem_nil, or_false, not_or, not_false_eq_true, List.nodup_nil, and_true]
    refine ⟨⟨hnd.1.1, hnd.1.2.1, hnd.1.2.2.1, hd0, hnd.1.2.2.2.2.1, hnd.1.2.2.2.2.2⟩, ⟨hnd.2.1.1, hnd.2.1.2.1, hd1, hnd.2.1.2.2.2.1, hnd.2.1.2.2.2.2⟩, ⟨hnd.2.2.1.1, hd2, hnd.2.2.1.2.2.1, hnd.2.2.1.2.2.2⟩, ⟨hd3, hnd.2.2.2.1.2.1, hnd.2.2.2.1.2.2⟩, ⟨fun e => hd5 e.symm, fun e => hd6 e.symm⟩, hnd.2.2.2.2.2⟩
  have pall : (its ++ pls).Perm [(⟨false, w0⟩ : Itm), ⟨false, w1⟩, ⟨true, w2⟩, ⟨false, w3⟩, ⟨false, w4 ++ [46] ++ w0⟩, ⟨true, w5⟩, ⟨true, w6⟩] := List.Perm.append hi hp
  have ndv : ((its.drop v ++ pls).map (·.x)).Nodup := by
    have h1 : ((its ++ pls).map (·.x)).Nodup := (pall.map fun i : Itm => i.x).nodup_iff.mpr nd7
    exact h1.sublist ((List.Sublist.append_right (List.drop_sublist v its) pls).map _)
  have hil : its.length = 3 := hi.length_eq
  have hpl : pls.length = 4 := hp.length_eq
  have pa : (pls.filter (·.arr)).length = 2 := (hp.filter (·.arr)).length_eq
  have pn : (pls.filter fun i => !i.arr).length = 2 := (hp.filter fun i => !i.arr).length_eq
  have ia : (its.filter (·.arr)).length = 1 := (hi.filter (·.arr)).length_eq
  have inn : (its.filter fun i => !i.arr).length = 2 := (hi.filter fun i => !i.arr).length_eq
  have ia2 : ((its.drop v).filter (·.arr)).length ≤ 1 := by
    have := ((List.drop_sublist v its).filter (·.arr)).length_le
    omega
  have in2 : ((its.drop v).filter fun i => !i.arr).length ≤ 2 := by
    have := ((List.drop_sublist v its).filter fun i => !i.arr).length_le
    omega
  have hdl : (its.drop v).length = 3 - v := by rw [List.length_drop, hil]
  refine ⟨hn, by show 1 ≤ (its.drop v).length; omega, by show (its.drop v).length ≤ 3; omega, hpl, hr, ndv, fun i h => ?_, fun i h => ?_, fun i h => ?_, ia2, ?_, ?_, ?_, ?_⟩
  · have := hall h
    simp only [List.mem_cons, List.not_mem_nil, or_false] at this
    rcases this with rfl | rfl | rfl | rfl | rfl | rfl | rfl <;> simp only [List.length_append, List.length_singleton] <;> omega
  · have := hall h
    simp only [List.mem_cons, List.not_mem_nil, or_false] at this
    rcases this with rfl | rfl | rfl | rfl | rfl | rfl | rfl
    · exact ⟨hne.1, fun ch hc => .inr (haz.1 ch hc)⟩
    · exact ⟨hne.2.1, fun ch hc => .inr (haz.2.1 ch hc)⟩
    · exact ⟨hne.2.2.1, fun ch hc => .inr (haz.2.2.1 ch hc)⟩
    · exact ⟨hne.2.2.2.1, fun ch hc => .inr (haz.2.2.2.1 ch hc)⟩
    · refine ⟨by simp, fun ch hc => ?_⟩
      simp only [List.mem_append, List.mem_singleton] at hc
      rcases hc with (hc | hc) | hc
      · exact .inr (haz.2.2.2.2.1 ch hc)
      · exact .inl hc
      · exact .inr (haz.1 ch hc)
    · exact ⟨hne.2.2.2.2.2.1, fun ch hc => .inr (haz.2.2.2.2.2.1 ch hc)⟩
    · exact ⟨hne.2.2.2.2.2.2, fun ch hc => .inr (haz.2.2.2.2.2.2 ch hc)⟩
  · have := hall h
    simp only [List.mem_cons, List.not_mem_nil, or_false] at this
    have lr : kresult.length = 6 := rfl
    rcases this with rfl | rfl | rfl | rfl | rfl | rfl | rfl
    · exact fun e => by have := congrArg List.length e; simp only at this; omega
    · exact fun e => by have := congrArg List.length e; simp only at this; omega
    · exact fun e => by have := congrArg List.length e; simp only at this; omega
    · exact fun e => by have := congrArg List.length e; simp only at this; omega
    · intro e
      have h46 : 46 ∈ kresult := by
        have e : w4 ++ [46] ++ w0 = kresult := e
        rw [← e]; simp
      exact absurd h46 (by decide)
    · exact fun e => by have := congrArg List.length e; simp only at this; omega
    · exact fun e => by have := congrArg List.length e; simp only at this; omega
  · simp only [Hd.arrs, Hd.vars, List.filter_append, List.length_map, List.length_append]; omega
  · simp only [Hd.arrs, Hd.vars, List.filter_append, List.length_map, List.length_append]; omega
  · simp only [Hd.ints, Hd.vars, List.filter_append, List.length_map, List.length_append]; omega
  · simp only [Hd.ints, Hd.vars, List.filter_append, List.length_map, List.length_append]; omega
theorem kind_item (i : Itm) : i.toD = .tup [.str (if i.arr then karray else kint), .str i.x] := rfl
theorem head (k : Nat) (st : DS) (R : List Cell) (name : Wd) (hn : name.length ≤ 99) : ∃ (h : Hd) (st' : DS), h.name = name ∧ GHd h ∧ Phi tb (k + 3) 38 [.ref 0, .str name] (st.cell :: R) = .ok true (headD h) (st'.cell :: R) := by
  obtain ⟨ws, st1, hw, e1⟩ := words k st R 7 (by decide)
  have e1 : Phi tb (k + 2) 27 [.ref 0, .int 7] (st.cell :: R) = .ok true (.lst (ws.map .str)) (st1.cell :: R) := e1
  match ws, hw, e1 with
  | [w0, w1, w2, w3, w4, w5, w6], hw, e1 =>
    obtain ⟨r, st2, hr, e2⟩ := shuffled k ([⟨false, w0⟩, ⟨false, w1⟩, ⟨true, w2⟩].map Itm.toD) st1 R (by simp)
    obtain ⟨its, hits, rfl⟩ := perm_map Itm.toD hr rfl
    obtain ⟨v, st3, hv, e3⟩ := drawI (k + 1) st2 R 3 (by decide) (by decide)
    obtain ⟨r2, st4, hr2, e4⟩ := shuffled k ([⟨false, w3⟩, ⟨false, w4 ++ [46] ++ w0⟩, ⟨true, w5⟩, ⟨true, w6⟩].map Itm.toD) st3 R (by simp)
    obtain ⟨pls, hpls, rfl⟩ := perm_map Itm.toD hr2 rfl
    obtain ⟨u, st5, hu, e5⟩ := drawI (k + 1) st4 R 2 (by decide) (by decide)
    have hv' : v < 3 := by omega
    have hu' : u < 2 := by omega
    have hrs : ([kresult] : List Wd).take u = [] ∨ ([kresult] : List Wd).take u = [kresult] := by
      have : u = 0 ∨ u = 1 := by omega
      rcases this with rfl | rfl
      · exact .inl rfl
      · exact .inr rfl
    have good := head_good hw hn hits hpls hv' hrs
    refine ⟨⟨name, its.drop v, pls, ([kresult] : List Wd).take u⟩, st5, rfl, good, ?_⟩
    generalize hh : (⟨name, its.drop v, pls, ([kresult] : List Wd).take u⟩ : Hd) = h at good ⊢
    have hitems : h.items = its.drop v := by rw [← hh]
    have hplaces : h.places = pls := by rw [← hh]
    have hname : h.name = name := by rw [← hh]
    have hres : h.results = ([kresult] : List Wd).take u := by rw [← hh]
    have hlen : h.items.length + h.places.length ≤ LIM := lim_le (by have := good.il; have := good.pl; omega)
    let z : List Slot := [.sh (.ref 0), .sh (.str name), .own (.L [.str w0, .str w1, .str w2, .str w3, .str w4, .str w5, .str w6]), .sh (.lst (h.items.map Itm.toD)), .sh (.lst (h.places.map Itm.toD))]
    have c1 : ∀ x5 : Slot, ev (prog tb (k + 2)) f38_c1 ⟨z ++ [x5, .no, .no], st5.cell :: R⟩ = .ok (true, .lst (h.ints.map .str)) ⟨z ++ [x5, .no, .no], st5.cell :: R⟩ := fun x5 => by
      have e : h.ints.map D.str = ((h.vars.filter fun i => !i.arr).map fun i => .str i.x) := by unfold Hd.ints; rw [List.map_map]; rfl
      rw [e]
      unfold f38_c1
      refine ev_compF h.vars Itm.toD (fun i => !i.arr) (fun i => .str i.x) rfl (by simp! [z, hlen, Hd.vars]) (by unfold Hd.vars; rw [List.length_append]; exact hlen) fun i hi => ?_
      cases ha : i.arr
      · simp! [cturn, z, Itm.toD, ha]
      · simp! [cturn, z, Itm.toD, ha]
    have c2 : ∀ x5 : Slot, ev (prog tb (k + 2)) f38_c2 ⟨z ++ [x5, .no, .no], st5.cell :: R⟩ = .ok (true, .lst (h.arrs.map .str)) ⟨z ++ [x5, .no, .no], st5.cell :: R⟩ := fun x5 => by
      have e : h.arrs.map D.str = ((h.vars.filter (·.arr)).map fun i => .str i.x) := by unfold Hd.arrs; rw [List.map_map]; rfl
      rw [e]
      unfold f38_c2
      refine ev_compF h.vars Itm.toD (·.arr) (fun i => .str i.x) rfl (by simp! [z, hlen, Hd.vars]) (by unfold Hd.vars; rw [List.length_append]; exact hlen) fun i hi => ?_
      cases ha : i.arr
      · simp! [cturn, z, Itm.toD, ha]
      · simp! [cturn, z, Itm.toD, ha]
    have b1 : w4.length + 1 ≤ LIM := lim_le (by have := hw.short w4 (by simp); omega)
    have b2 : w4.length + 1 + w0.length ≤ LIM := lim_le (by have := hw.short w4 (by simp); have := hw.short w0 (by simp); omega)
    simp only [List.map_cons, List.map_nil] at e1 e2 e4
    simp only [Itm.toD, if_true, Bool.false_eq_true, if_false] at e2 e4
    rw [phi_succ (fn := f38) rfl rfl (by decide)]
    show fin (st.cell :: R).length (execs (prog tb (k + 2)) f38.body ⟨[.sh (.ref 0), .sh (.str name), .no, .no, .no, .no, .no, .no], st.cell :: R⟩) = _
    unfold f38
    refine fin_seq (s1 := ⟨[.sh (.ref 0), .sh (.str name), .own (.L [.str w0, .str w1, .str w2, .str w3, .str w4, .str w5, .str w6]), .no, .no, .no, .no, .no], st1.cell :: R⟩) (by simp! [e1]) ?_
    refine fin_seq (s1 := ⟨[.sh (.ref 0), .sh (.str name), .own (.L [.str w0, .str w1, .str w2, .str w3, .str w4, .str w5, .str w6]), .own (.L (h.items.map Itm.toD)), .no, .no, .no, .no], st3.cell :: R⟩) ?_ ?_
    · rw [hitems]
      simp! [e2, e3]
    refine fin_seq (s1 := ⟨[.sh (.ref 0), .sh (.str name), .own (.L [.str w0, .str w1, .str w2, .str w3, .str w4, .str w5, .str w6]), .own (.L (h.items.map Itm.toD)), .own (.L [.tup [.str kint, .str w3], .tup [.str kint, .str (w4 ++ [46] ++ w0)], .tup [.str karray, .str w5], .tup [.str karray, .str w6]]), .no, .no, .no], st3.cell :: R⟩) (by simp! [b1, b2, at6]) ?_
    refine fin_seq (s1 := ⟨[.sh (.ref 0), .sh (.str name), .own (.L [.str w0, .str w1, .str w2, .str w3, .str w4, .str w5, .str w6]), .own (.L (h.items.map Itm.toD)), .own (.L (h.places.map Itm.toD)), .no, .no, .no], st4.cell :: R⟩) ?_ ?_
    · rw [hplaces]
      simp only [List.append_assoc, List.singleton_append] at e4 ⊢
      simp! [e4]
    refine fin_seq (s1 := ⟨z ++ [.own (.M [.str kname, .str kitems, .str kplaces, .str kresults] [.str name, .lst (h.items.map Itm.toD), .lst (h.places.map Itm.toD), sD h.results]), .no, .no], st5.cell :: R⟩) ?_ ?_
    · rw [hres]
      simp! [z, e5, keysOk, keyOk, mk4, sD]
    refine fin_seq (s1 := ⟨z ++ [.own (.M [.str kname, .str kitems, .str kplaces, .str kresults, .str kints] [.str name, .lst (h.items.map Itm.toD), .lst (h.places.map Itm.toD), sD h.results, .lst (h.ints.map .str)]), .no, .no], st5.cell :: R⟩) ?_ ?_
    · rw [ex_put, c1]
      simp! [z, put5]
    refine fin_seq (s1 := ⟨z ++ [.own (.M [.str kname, .str kitems, .str kplaces, .str kresults, .str kints, .str karrays] [.str name, .lst (h.items.map Itm.toD), .lst (h.places.map Itm.toD), sD h.results, .lst (h.ints.map .str), .lst (h.arrs.map .str)]), .no, .no], st5.cell :: R⟩) ?_ ?_
    · rw [ex_put, c2]
      simp! [z, put6]
    · rw [← hname]
      simp! [z, headD]
end K62

set_option Elab.async false
set_option linter.all false
set_option maxRecDepth 100000
set_option maxHeartbeats 2000000
set_option autoImplicit false
/-! k59: values, tests, calls. -/
namespace K62
open Z Co
local macro_rules
  | `(tactic| simp! [$ts,*]) => `(tactic| simp [plains, deeps, D.fit, D.plain, D.deep, lim_ble, lim_blt, cut_fromI, cut_toI, ex_set, ex_setT, ex_aug, ex_put, ex_retv, rt_lit, rt_g, rt_pr, rt_sl, rt_mp, rt_mu, rt_tup, rt_lst, rt_call, rt_callv, rt_notV, rt_bopV, rt_ite, rt_cell, rt_kin, rt_kix, rt_comp, rt_dct, ex_retN, ex_ife, ex_brk, ex_cnt, ex_pass, ex_exp, ex_rais, exs_nil, exs_cons, call_eq, glob_eq, kd_eq, atI_zero, atI_1, atI_2, atI_3, atI_4, atI_5, atI_8, wipeZ, backZ, appendC, extendC, popC, insertC, rd_v, rp_v, rp_pr, rd_lit, rd_g, rd_pr, rd_sl, rd_mp, rd_mu, rd_tup, rd_lst, rd_call, rd_callv, rd_notV, rd_bopV, rd_ite, rd_cell, rd_kin, rd_kix, rd_comp, rd_dct, rd_fn, ev, evs, evo, evrs, evt, evtb, evts, evit, evb, readV, Place.get, Place.set, Arg.get, getAll, Res.bind, Res.then, RS.seq, lift, prim, prim1, prim2, binD, cmpD, ix_lst, ix_tup, ix_str, ix_dct, slD, lenP, lenD, intD, negD, bindTo, assign, assigns, fin, der_non, der_bl, der_int, der_str, der_tup, der_lst, der_dct, der_ref, der_scr, der_fn, gc, fit_str, fit_int, D.eqv, truthD, Cell.view, isList, mutC, mrecv, mprim, mprim2, mprim3, augD, toCell, Option.bind, fromF, isiP, isiD, tupleD, listD, seqOf, noX, iterD, isSh, pix0, pix1, pix2, pix3, pix5, pix8, pder, iix0, iix1, ider, sder, eix0, kind_ne, eder, aix0, aix0e, aix1, ader, cder, $ts,*])
def inE (is as : List Wd) : Ex → Prop
  | .name x => x ∈ is
  | .num n => 0 ≤ n ∧ n ≤ 5
  | .len a => a ∈ as
  | .item a e => a ∈ as ∧ inE is as e
  | .quo e m => inE is as e ∧ 1 ≤ m ∧ m ≤ 4
  | .rem e m => inE is as e ∧ 1 ≤ m ∧ m ≤ 4
  | .scale c e => (c = -1 ∨ c = 2) ∧ inE is as e
  | .plus e f => inE is as e ∧ inE is as f
  | .minus e f => inE is as e ∧ inE is as f
def dep : Ex → Nat
  | .name _ => 0
  | .num _ => 0
  | .len _ => 0
  | .item _ e => dep e + 1
  | .quo e _ => dep e + 1
  | .rem e _ => dep e + 1
  | .scale _ e => dep e + 1
  | .plus e f => max (dep e) (dep f) + 1
  | .minus e f => max (dep e) (dep f) + 1
def vz (is as : List Wd) (n : Int) (a b c : Slot) (st : DS) (R : List Cell) : Sta := ⟨[.sh (.ref 0), .sh (.lst (is.map .str)), .sh (.lst (as.map .str)), .sh (.int n), a, b, c], st.cell :: R⟩
theorem two_at (a b : D) (v : Nat) (h : v < 2) : atI [a, b] (v : Int) = some (if v = 0 then a else b) := by
  have : v = 0 ∨ v = 1 := by omega
  rcases this with rfl | rfl
  · exact atI_zero a [b]
  · exact atI_1 a b []
def ValOk (is as : List Wd) (n k : Nat) (st : DS) (R : List Cell) : Prop := ∃ (e : Ex) (st' : DS), inE is as e ∧ dep e ≤ n ∧ Phi tb (k + n + 3) 39 [.ref 0, .lst (is.map .str), .lst (as.map .str), .int n] (st.cell :: R) = .ok false e.toD (st'.cell :: R)
theorem value_step {is as : List Wd} (hi : 1 ≤ is.length) (hi2 : is.length ≤ 9) (ha : 1 ≤ as.length) (ha2 : as.length ≤ 9) (n : Nat) (IH : ∀ m, n = m + 1 → ∀ (k : Nat) (st : DS) (R : List Cell), ValOk is as m k st R) (k : Nat) (st : DS) (R : List Cell) : ValOk is as n k st R := by
    unfold ValOk
    obtain ⟨x, st1, hx, e1⟩ := one_str (k + n) st R is hi (by omega)
    obtain ⟨v, st2, hv, e2⟩ := drawI (k + n + 1) st1 R 11 (by decide) (by decide)
    have hstart : ∀ (r : RS) (f : FRes), execs (prog tb (k + n + 2)) f39.body.tail.tail (vz is as n (.sh (Ex.name x).toD) (.sh (.int v)) .no st2 R) = r → fin (st.cell :: R).length r = f → Phi tb (k + n + 3) 39 [.ref 0, .lst (is.map .str), .lst (as.map .str), .int n] (st.cell :: R) = f := fun r f hr hf => by
      rw [phi_succ (fn := f39) rfl rfl (by decide)]
      show fin (st.cell :: R).length (execs (prog tb (k + n + 2)) f39.body (vz is as n .no .no .no st R)) = _
      rw [← hf, ← hr]
      unfold f39
      simp only [List.tail_cons]
      refine fin_seq (s1 := vz is as n (.sh (Ex.name x).toD) .no .no st1 R) (by generalize (n : Int) = N; simp! [vz, e1, Ex.toD]) ?_
      refine fin_seq (s1 := vz is as n (.sh (Ex.name x).toD) (.sh (.int v)) .no st2 R) (by generalize (n : Int) = N; generalize (v : Int) = w at e2 ⊢; simp! [vz, e2]) rfl
    unfold f39 at hstart
    simp only [List.tail_cons] at hstart
    by_cases h0 : v < 4 ∨ n = 0
    · refine ⟨.name x, st2, hx, Nat.zero_le _, hstart _ _ (seq_ret (o := false) (d := (Ex.name x).toD) (s1 := vz is as n (.sh (Ex.name x).toD) (.sh (.int v)) .no st2 R) ?_) (by simp [fin, gc, vz])⟩
      refine exec_if_true (s1 := vz is as n (.sh (Ex.name x).toD) (.sh (.int v)) .no st2 R) ?_ (by simp! [vz])
      rcases h0 with h | h
      · have h' : (v : Int) < 4 := by omega
        generalize (n : Int) = N
        generalize (v : Int) = w at h' ⊢
        simp! [vz, h']
      · have h' : (n : Int) = 0 := by omega
        generalize (n : Int) = N at h' ⊢
        by_cases h4 : (v : Int) < 4
        · generalize (v : Int) = w at h4 ⊢
          simp! [vz, h', h4]
        · generalize (v : Int) = w at h4 ⊢
          simp! [vz, h', h4]
    · have hv4 : ¬ (v : Int) < 4 := by omega
      have hn0 : ¬ (n : Int) = 0 := by omega
      have s0 : ∀ {xs : List S} {r : RS}, execs (prog tb (k + n + 2)) xs (vz is as n (.sh (Ex.name x).toD) (.sh (.int v)) .no st2 R) = r → execs (prog tb (k + n + 2)) (.ife (.bop false [(.cmp .Lt (.v 5) (.lit (.int 4))), (.cmp .Eq (.v 3) (.lit (.int 0)))]) [(.ret (.v 4))] [] :: xs) (vz is as n (.sh (Ex.name x).toD) (.sh (.int v)) .no st2 R) = r := fun {xs r} h => by
        refine seq_go (s1 := vz is as n (.sh (Ex.name x).toD) (.sh (.int v)) .no st2 R) ?_ h
        refine exec_if_false (s1 := vz is as n (.sh (Ex.name x).toD) (.sh (.int v)) .no st2 R) ?_ exs_nil
        generalize (n : Int) = N at hn0 ⊢
        generalize (v : Int) = w at hv4 ⊢
        simp! [vz, hn0, hv4]
      have skip : ∀ (c : Int) (a : List S) {xs : List S} {r : RS} (y : Slot) (s' : DS), ¬ (v : Int) = c → execs (prog tb (k + n + 2)) xs (vz is as n (.sh (Ex.name x).toD) (.sh (.int v)) y s' R) = r → execs (prog tb (k + n + 2)) (.ife (.cmp .Eq (.v 5) (.lit (.int c))) a [] :: xs) (vz is as n (.sh (Ex.name x).toD) (.sh (.int v)) y s' R) = r := fun c a {xs r} y s' hc h => by
        refine seq_go (s1 := vz is as n (.sh (Ex.name x).toD) (.sh (.int v)) y s' R) ?_ h
        refine exec_if_false (s1 := vz is as n (.sh (Ex.name x).toD) (.sh (.int v)) y s' R) ?_ exs_nil
        generalize (n : Int) = N
        generalize (v : Int) = w at hc ⊢
        simp! [vz, hc]
      have take : ∀ (c : Int) (a : List S) {xs : List S} (y : Slot) (s' s2 : DS) (d : D), (v : Int) = c → execs (prog tb (k + n + 2)) a (vz is as n (.sh (Ex.name x).toD) (.sh (.int v)) y s' R) = .ret false d (vz is as n (.sh (Ex.name x).toD) (.sh (.int v)) y s2 R) → execs (prog tb (k + n + 2)) (.ife (.cmp .Eq (.v 5) (.lit (.int c))) a [] :: xs) (vz is as n (.sh (Ex.name x).toD) (.sh (.int v)) y s' R) = .ret false d (vz is as n (.sh (Ex.name x).toD) (.sh (.int v)) y s2 R) := fun c a {xs} y s' s2 d hc h => by
        refine seq_ret (exec_if_true (s1 := vz is as n (.sh (Ex.name x).toD) (.sh (.int v)) y s' R) ?_ h)
        generalize (n : Int) = N
        generalize (v : Int) = w at hc ⊢
        simp! [vz, hc]
      have fin' : ∀ (d : D) (y : Slot) (s2 : DS), fin (st.cell :: R).length (.ret false d (vz is as n (.sh (Ex.name x).toD) (.sh (.int v)) y s2 R)) = .ok false d (s2.cell :: R) := fun d y s2 => by simp [fin, gc, vz]
      by_cases h4 : (v : Int) = 4
      · obtain ⟨u, st3, hu, e3⟩ := drawI (k + n + 1) st2 R 6 (by decide) (by decide)
        refine ⟨.num u, st3, ⟨by omega, by omega⟩, Nat.zero_le _, hstart _ _ (s0 (take 4 _ _ _ st3 (Ex.num u).toD h4 ?_)) (fin' _ _ _)⟩
        generalize (n : Int) = N
        generalize (v : Int) = w
        generalize (u : Int) = uu at e3 ⊢
        simp! [vz, e3, Ex.toD]
      · by_cases h5 : (v : Int) = 5
        · obtain ⟨a, st3, hA, e3⟩ := one_str (k + n) st2 R as ha (by omega)
          refine ⟨.len a, st3, hA, Nat.zero_le _, hstart _ _ (s0 (skip 4 _ _ _ h4 (take 5 _ _ _ st3 (Ex.len a).toD h5 ?_))) (fin' _ _ _)⟩
          generalize (n : Int) = N
          generalize (v : Int) = w
          simp! [vz, e3, Ex.toD]
        · obtain ⟨n, rfl⟩ : ∃ m, n = m + 1 := ⟨n - 1, by omega⟩
          · obtain ⟨e, st3, he, hd, e3⟩ := IH n rfl k st2 R
            have hN : ((n + 1 : Nat) : Int) - 1 = (n : Int) := by omega
            have s1 : ∀ {xs : List S} {r : RS}, execs (prog tb (k + (n + 1) + 2)) xs (vz is as (n + 1 : Nat) (.sh (Ex.name x).toD) (.sh (.int v)) (.sh e.toD) st3 R) = r → execs (prog tb (k + (n + 1) + 2)) (.set 6 (.call 39 [(.v 0), (.v 1), (.v 2), (.pr (.bin .Sub) [(.v 3), (.lit (.int 1))])]) :: xs) (vz is as (n + 1 : Nat) (.sh (Ex.name x).toD) (.sh (.int v)) .no st2 R) = r := fun {xs r} h => by
              refine seq_go (s1 := vz is as (n + 1 : Nat) (.sh (Ex.name x).toD) (.sh (.int v)) (.sh e.toD) st3 R) ?_ h
              have e3 : Phi tb (k + (n + 1) + 2) 39 [.ref 0, .lst (is.map .str), .lst (as.map .str), .int n] (st2.cell :: R) = .ok false e.toD (st3.cell :: R) := e3
              generalize ((n + 1 : Nat) : Int) = N at hN ⊢
              generalize (v : Int) = w
              simp! [vz, hN, e3]
            have pre : ∀ {xs : List S} {r : RS} (a4 a5 : List S), execs (prog tb (k + (n + 1) + 2)) xs (vz is as (n + 1 : Nat) (.sh (Ex.name x).toD) (.sh (.int v)) (.sh e.toD) st3 R) = r → execs (prog tb (k + (n + 1) + 2)) (.ife (.bop false [(.cmp .Lt (.v 5) (.lit (.int 4))), (.cmp .Eq (.v 3) (.lit (.int 0)))]) [(.ret (.v 4))] [] :: .ife (.cmp .Eq (.v 5) (.lit (.int 4))) a4 [] :: .ife (.cmp .Eq (.v 5) (.lit (.int 5))) a5 [] :: .set 6 (.call 39 [(.v 0), (.v 1), (.v 2), (.pr (.bin .Sub) [(.v 3), (.lit (.int 1))])]) :: xs) (vz is as (n + 1 : Nat) (.sh (Ex.name x).toD) (.sh (.int v)) .no st2 R) = r := fun a4 a5 h => s0 (skip 4 a4 _ _ h4 (skip 5 a5 _ _ h5 (s1 h)))
            by_cases h6 : (v : Int) = 6
            · obtain ⟨a, st4, hA, e4⟩ := one_str (k + (n + 1)) st3 R as ha (by omega)
              refine ⟨.item a e, st4, ⟨hA, he⟩, by simp only [dep]; omega, hstart _ _ (pre _ _ (take 6 _ _ _ st4 (Ex.item a e).toD h6 ?_)) (fin' _ _ _)⟩
              generalize ((n + 1 : Nat) : Int) = N
              generalize (v : Int) = w
              simp only [Ex.toD]
              generalize e.toD = ed
              simp! [vz, e4, Ex.toD]
            · by_cases h7 : (v : Int) = 7
              · obtain ⟨u, st4, hu, e4⟩ := drawI (k + (n + 1) + 1) st3 R 2 (by decide) (by decide)
                obtain ⟨q, st5, hq, e5⟩ := drawI (k + (n + 1) + 1) st4 R 4 (by decide) (by decide)
                have ha2 := two_at (.str kquotient) (.str kremainder) u (by omega)
                refine ⟨if u = 0 then .quo e (1 + q) else .rem e (1 + q), st5, ?_, ?_, hstart _ _ (pre _ _ (skip 6 _ _ _ h6 (take 7 _ _ _ st5 _ h7 ?_))) (fin' _ _ _)⟩
                · split <;> exact ⟨he, by omega, by omega⟩
                · split <;> simp only [dep] <;> omega
                · have hD : (if u = 0 then Ex.quo e (1 + q) else Ex.rem e (1 + q)).toD = .tup [if u = 0 then .str kquotient else .str kremainder, e.toD, .int (1 + q)] := by split <;> rfl
                  rw [hD]
                  generalize (if u = 0 then D.str kquotient else .str kremainder) = kd at ha2 ⊢
                  generalize ((n + 1 : Nat) : Int) = N
                  generalize (v : Int) = w
                  generalize (u : Int) = uu at e4 ha2
                  generalize (q : Int) = qq at e5 ⊢
                  simp only [Ex.toD]
                  generalize e.toD = ed
                  simp! [vz, e4, e5, ha2]
              · by_cases h8 : (v : Int) = 8
                · obtain ⟨u, st4, hu, e4⟩ := drawI (k + (n + 1) + 1) st3 R 2 (by decide) (by decide)
                  have ha2 := two_at (.int (-1)) (.int 2) u (by omega)
                  refine ⟨.scale (if u = 0 then -1 else 2) e, st4, ⟨by split <;> simp, he⟩, by simp only [dep]; omega, hstart _ _ (pre _ _ (skip 6 _ _ _ h6 (skip 7 _ _ _ h7 (take 8 _ _ _ st4 _ h8 ?_)))) (fin' _ _ _)⟩
                  have hD : (Ex.scale (if u = 0 then -1 else 2) e).toD = .tup [.str kscale, if u = 0 then .int (-1) else .int 2, e.toD] := by
                    simp only [Ex.toD]
                    split <;> rfl
                  rw [hD]
                  generalize (if u = 0 then D.int (-1) else .int 2) = kd at ha2 ⊢
                  generalize ((n + 1 : Nat) : Int) = N
                  generalize (v : Int) = w
                  generalize (u : Int) = uu at e4 ha2
                  simp only [Ex.toD]
                  generalize e.toD = ed
                  simp! [vz, e4, ha2]
                · obtain ⟨u, st4, hu, e4⟩ := drawI (k + (n + 1) + 1) st3 R 2 (by decide) (by decide)
                  obtain ⟨q, st5, hq, e5⟩ := drawI (k + (n + 1) + 1) st4 R 3 (by decide) (by decide)
                  have ha2 := two_at (.str kplus) (.str kminus) u (by omega)
                  refine ⟨if u = 0 then .plus e (.num (1 + q)) else .minus e (.num (1 + q)), st5, ?_, ?_, hstart _ _ (pre _ _ (skip 6 _ _ _ h6 (skip 7 _ _ _ h7 (skip 8 _ _ _ h8 (seq_ret (s1 := vz is as (n + 1 : Nat) (.sh (Ex.name x).toD) (.sh (.int v)) (.sh e.toD) st5 R) ?_))))) (fin' _ _ _)⟩
                  · split <;> exact ⟨he, by omega, by omega⟩
                  · split <;> simp only [dep] <;> omega
                  · have hD : (if u = 0 then Ex.plus e (.num (1 + q)) else Ex.minus e (.num (1 + q))).toD = .tup [if u = 0 then .str kplus else .str kminus, e.toD, .tup [.str knumber, .int (1 + q)]] := by split <;> rfl
                    rw [hD]
                    generalize (if u = 0 then D.str kplus else .str kminus) = kd at ha2 ⊢
                    generalize ((n + 1 : Nat) : Int) = N
                    generalize (v : Int) = w
                    generalize (u : Int) = uu at e4 ha2
                    generalize (q : Int) = qq at e5 ⊢
                    simp only [Ex.toD]
                    generalize e.toD = ed
                    simp! [vz, e4, e5, ha2]
theorem value {is as : List Wd} (hi : 1 ≤ is.length) (hi2 : is.length ≤ 9) (ha : 1 ≤ as.length) (ha2 : as.length ≤ 9) : ∀ (n k : Nat) (st : DS) (R : List Cell), ValOk is as n k st R
  | 0, k, st, R => value_step hi hi2 ha ha2 0 (fun m h => by cases h) k st R
  | n + 1, k, st, R => value_step hi hi2 ha ha2 (n + 1) (fun m h => by cases h; exact value hi hi2 ha ha2 n) k st R
end K62

set_option Elab.async false
set_option linter.all false
set_option maxRecDepth 100000
set_option maxHeartbeats 2000000
set_option autoImplicit false
/-! k59: calls and tests. -/
namespace K62
open Z Co
local macro_rules
  | `(tactic| simp! [$ts,*]) => `(tactic| simp [plains, deeps, D.fit, D.plain, D.deep, lim_ble, lim_blt, cut_fromI, cut_toI, ex_set, ex_setT, ex_aug, ex_put, ex_retv, rt_lit, rt_g, rt_pr, rt_sl, rt_mp, rt_mu, rt_tup, rt_lst, rt_call, rt_callv, rt_notV, rt_bopV, rt_ite, rt_cell, rt_kin, rt_kix, rt_comp, rt_dct, ex_retN, ex_ife, ex_brk, ex_cnt, ex_pass, ex_exp, ex_rais, exs_nil, exs_cons, call_eq, glob_eq, kd_eq, atI_zero, atI_1, atI_2, atI_3, atI_4, atI_5, atI_8, wipeZ, backZ, appendC, extendC, popC, insertC, rd_v, rp_v, rp_pr, rd_lit, rd_g, rd_pr, rd_sl, rd_mp, rd_mu, rd_tup, rd_lst, rd_call, rd_callv, rd_notV, rd_bopV, rd_ite, rd_cell, rd_kin, rd_kix, rd_comp, rd_dct, rd_fn, ev, evs, evo, evrs, evt, evtb, evts, evit, evb, readV, Place.get, Place.set, Arg.get, getAll, Res.bind, Res.then, RS.seq, lift, prim, prim1, prim2, binD, cmpD, ix_lst, ix_tup, ix_str, ix_dct, slD, lenP, lenD, intD, negD, bindTo, assign, assigns, fin, der_non, der_bl, der_int, der_str, der_tup, der_lst, der_dct, der_ref, der_scr, der_fn, gc, fit_str, fit_int, D.eqv, truthD, Cell.view, isList, mutC, mrecv, mprim, mprim2, mprim3, augD, toCell, Option.bind, fromF, isiP, isiD, tupleD, listD, seqOf, noX, iterD, isSh, pix0, pix1, pix2, pix3, pix5, pix8, pder, iix0, iix1, ider, sder, eix0, kind_ne, eder, aix0, aix0e, aix1, ader, cder, $ts,*])
theorem GHd.n0 {h : Hd} (g : GHd h) : h.ints.length ≤ 9 := Nat.le_trans g.n4 (by decide)
theorem GHd.a0 {h : Hd} (g : GHd h) : h.arrs.length ≤ 9 := Nat.le_trans g.a3 (by decide)
theorem GHd.a1 {h : Hd} (g : GHd h) : 1 ≤ h.arrs.length := Nat.le_trans (by decide) g.a2
def agOk (h : Hd) : Ag → Prop
  | .arr x => x ∈ h.arrs
  | .ex e => inE h.ints h.arrs e ∧ dep e ≤ 1
def wc (hs : List Hd) (h q : Hd) (ps : List Wd) (as : List Ag) (j6 j7 : Slot) (st : DS) (R : List Cell) : Sta :=
  ⟨[.sh (.ref 0), .sh (.lst (hs.map headD)), .sh (headD h), .sh (headD q), .own (.L (ps.map .str)), .own (.L (as.map Ag.toD)), j6, j7, .no], st.cell :: R⟩
theorem call_loop (k : Nat) (hs : List Hd) {h : Hd} (g : GHd h) (q : Hd) : ∀ (is : List Itm) (ps : List Wd) (as : List Ag) (j6 j7 : Slot) (st : DS) (R : List Cell), (is.filter (·.arr)).length ≤ ps.length → (∀ x ∈ ps, x ∈ h.arrs) → as.length + is.length ≤ 100 →
    ∃ (bs : List Ag) (ps' : List Wd) (j6' j7' : Slot) (st' : DS), fits is bs ∧ (∀ a ∈ bs, agOk h a) ∧ forL (fbody (prog tb (k + 4)) (.tup [(.v 6), (.v 7)]) f40_b1) (is.map Itm.toD) (wc hs h q ps as j6 j7 st R) = .next (wc hs h q ps' (as ++ bs) j6' j7' st' R)
  | [], ps, as, j6, j7, st, R, _, _, _ => ⟨[], ps, j6, j7, st, trivial, by simp, by simp [forL]⟩
  | i :: is, ps, as, j6, j7, st, R, hl, hp, hL => by
    simp only [List.length_cons] at hL
    have hlim : as.length < LIM := lim_lt (by omega)
    cases hi : i.arr with
    | true =>
      simp only [List.filter_cons, hi, if_true, List.length_cons] at hl
      obtain ⟨ps1, y, rfl⟩ : ∃ ps1 y, ps = ps1 ++ [y] := ⟨ps.dropLast, ps.getLast (by intro e; rw [e] at hl; simp at hl), (List.dropLast_concat_getLast _).symm⟩
      have hy : y ∈ h.arrs := hp y (by simp)
      obtain ⟨bs, ps', a1, a2, st', f1, f2, f3⟩ := call_loop k hs g q is ps1 (as ++ [.arr y]) (.sh (.str karray)) (.sh (.str i.x)) st R (by rw [List.length_append, List.length_singleton] at hl; omega) (fun x hx => hp x (by simp [hx])) (by simp; omega)
      refine ⟨.arr y :: bs, ps', a1, a2, st', ⟨hi, f1⟩, fun a ha => ?_, ?_⟩
      · rcases List.mem_cons.mp ha with rfl | ha
        · exact hy
        · exact f2 a ha
      · have hb : fbody (prog tb (k + 4)) (.tup [(.v 6), (.v 7)]) f40_b1 i.toD (wc hs h q (ps1 ++ [y]) as j6 j7 st R) = .next (wc hs h q ps1 (as ++ [.arr y]) (.sh (.str karray)) (.sh (.str i.x)) st R) := by
          simp! [wc, fbody, f40_b1, Itm.toD, hi, hlim, Ag.toD]
        simp only [List.map_cons, forL, hb]
        rw [f3]
        simp
    | false =>
      simp only [List.filter_cons, hi, Bool.false_eq_true, if_false] at hl
      obtain ⟨e, st1, he, hd, e1⟩ := value g.n1 g.n0 g.a1 g.a0 1 k st R
      obtain ⟨bs, ps', a1, a2, st', f1, f2, f3⟩ := call_loop k hs g q is ps (as ++ [.ex e]) (.sh (.str kint)) (.sh (.str i.x)) st1 R hl hp (by simp; omega)
      refine ⟨.ex e :: bs, ps', a1, a2, st', ⟨hi, f1⟩, fun a ha => ?_, ?_⟩
      · rcases List.mem_cons.mp ha with rfl | ha
        · exact ⟨he, hd⟩
        · exact f2 a ha
      · have hb : fbody (prog tb (k + 4)) (.tup [(.v 6), (.v 7)]) f40_b1 i.toD (wc hs h q ps as j6 j7 st R) = .next (wc hs h q ps (as ++ [.ex e]) (.sh (.str kint)) (.sh (.str i.x)) st1 R) := by
          have e1 : Phi tb (k + 4) 39 [.ref 0, .lst (h.ints.map .str), .lst (h.arrs.map .str), .int 1] (st.cell :: R) = .ok false e.toD (st1.cell :: R) := e1
          simp only [wc, List.map_append, List.map_cons, List.map_nil, Ag.toD]
          generalize e.toD = ed at e1 ⊢
          simp! [fbody, f40_b1, Itm.toD, hi, hlim, hix5, hix6, hder, e1]

        simp only [List.map_cons, forL, hb]
        rw [f3]
        simp
theorem fitsL (q : Hd) (gq : GHd q) : q.items.length ≤ 3 := gq.il
theorem wcall (k : Nat) {hs : List Hd} (hh : 1 ≤ hs.length) (hh2 : hs.length ≤ 9) (gs : ∀ q ∈ hs, GHd q) {h : Hd} (g : GHd h) (st : DS) (R : List Cell) :
    ∃ (q : Hd) (as : List Ag) (ts : List Wd) (st' : DS), q ∈ hs ∧ fits q.items as ∧ (∀ a ∈ as, agOk h a) ∧ (ts = [] ∨ (q.results ≠ [] ∧ ∃ x ∈ h.ints, ts = [x])) ∧
      Phi tb (k + 5) 40 [.ref 0, .lst (hs.map headD), headD h] (st.cell :: R) = .ok false (St.call q.name as ts).toD (st'.cell :: R) := by
  obtain ⟨d, st1, hd, e1⟩ := one_of (k + 2) st R (hs.map headD) (by rw [List.length_map]; omega) (by rw [List.length_map]; omega)
  obtain ⟨q, hq, rfl⟩ := List.mem_map.mp hd
  have gq := gs q hq
  obtain ⟨r, st2, hr, e2⟩ := shuffled (k + 2) (h.arrs.map .str) st1 R (by have := g.a3; simp; omega)
  obtain ⟨ps, hps, rfl⟩ := perm_map D.str hr rfl
  obtain ⟨as, ps', j6, j7, st3, f1, f2, f3⟩ := call_loop k hs g q q.items ps [] .no .no st2 R (by rw [hps.length_eq]; have := gq.ia; have := g.a2; omega) (fun x hx => hps.mem_iff.mp hx) (by have := gq.il; simp; omega)
  let z : Slot → DS → Sta := fun y s => ⟨[.sh (.ref 0), .sh (.lst (hs.map headD)), .sh (headD h), .sh (headD q), .own (.L (ps'.map .str)), .own (.L (as.map Ag.toD)), j6, j7, y], s.cell :: R⟩
  have tail : ∀ (ts : List Wd) (s4 : DS), exec (prog tb (k + 4)) (.ife (.bop true [(.cmp .NotEq (.pr .ix [(.v 3), (.lit (.str kresults))]) (.tup [])), (.cmp .Gt (.call 24 [(.v 0), (.lit (.int 3))]) (.lit (.int 0)))]) [(.set 8 (.tup [(.call 25 [(.v 0), (.pr .ix [(.v 2), (.lit (.str kints))])])]))] []) (z (.sh (.tup [])) st3) = .next (z (.sh (sD ts)) s4) →
      Phi tb (k + 5) 40 [.ref 0, .lst (hs.map headD), headD h] (st.cell :: R) = .ok false (St.call q.name as ts).toD (s4.cell :: R) := fun ts s4 ht => by
    rw [phi_succ (fn := f40) rfl rfl (by decide)]
    show fin (st.cell :: R).length (execs (prog tb (k + 4)) f40.body ⟨[.sh (.ref 0), .sh (.lst (hs.map headD)), .sh (headD h), .no, .no, .no, .no, .no, .no], st.cell :: R⟩) = _
    unfold f40
    refine fin_seq (s1 := ⟨[.sh (.ref 0), .sh (.lst (hs.map headD)), .sh (headD h), .sh (headD q), .no, .no, .no, .no, .no], st1.cell :: R⟩) (by simp! [e1]) ?_
    refine fin_seq (s1 := ⟨[.sh (.ref 0), .sh (.lst (hs.map headD)), .sh (headD h), .sh (headD q), .own (.L (ps.map .str)), .no, .no, .no, .no], st2.cell :: R⟩) (by simp! [hix6, hder, e2]) ?_
    refine fin_seq (s1 := wc hs h q ps [] .no .no st2 R) (by simp! [wc]) ?_
    refine fin_seq (s1 := wc hs h q ps' as j6 j7 st3 R) (fr_go (s1 := wc hs h q ps [] .no .no st2 R) (ds := q.items.map Itm.toD) (by simp! [wc, hix2, hder]) (by simpa using f3)) ?_
    refine fin_seq (s1 := z (.sh (.tup [])) st3) (by simp! [wc, z]) ?_
    refine fin_seq ht ?_
    simp! [z, hix1, hder, St.toD]
  by_cases hres : q.results = []
  · refine ⟨q, as, [], st3, hq, f1, f2, .inl rfl, tail [] st3 (exec_if_false (s1 := z (.sh (.tup [])) st3) ?_ exs_nil)⟩
    simp! [z, hix4, hder, hres, sD, plains, deeps, eqvs]
  · have hr1 : q.results = [kresult] := gq.rl.resolve_left hres
    obtain ⟨u, st4, hu, e4⟩ := drawI (k + 3) st3 R 3 (by decide) (by decide)
    have hc : evt (prog tb (k + 4)) (.bop true [(.cmp .NotEq (.pr .ix [(.v 3), (.lit (.str kresults))]) (.tup [])), (.cmp .Gt (.call 24 [(.v 0), (.lit (.int 3))]) (.lit (.int 0)))]) (z (.sh (.tup [])) st3) = .ok (decide (0 < (u : Int))) (z (.sh (.tup [])) st4) := by
      generalize (u : Int) = uu at e4 ⊢
      simp! [z, hix4, hder, hr1, sD, e4, plains, deeps, eqvs]
    by_cases hu0 : 0 < (u : Int)
    · obtain ⟨x, st5, hx, e5⟩ := one_str (k + 2) st4 R h.ints g.n1 (by have := g.n4; omega)
      rw [decide_eq_true hu0] at hc
      refine ⟨q, as, [x], st5, hq, f1, f2, .inr ⟨hres, x, hx, rfl⟩, tail [x] st5 (exec_if_true hc (one_ret.trans ?_))⟩
      simp! [z, hix5, hder, e5, sD]
    · rw [decide_eq_false hu0] at hc
      exact ⟨q, as, [], st4, hq, f1, f2, .inl rfl, tail [] st4 (exec_if_false hc exs_nil)⟩
/-! ### budgets -/
def bh (R : List Cell) (b : Int) : List Cell := R ++ [.L [.int b]]
theorem bh_get (c0 : Cell) (R : List Cell) (b : Int) : (c0 :: bh R b)[R.length + 1]? = some (.L [.int b]) := by
  simp [bh]
theorem bh_set (c0 : Cell) (R : List Cell) (b b' : Int) : (c0 :: bh R b).set (R.length + 1) (.L [.int b']) = c0 :: bh R b' := by
  simp [bh]
def lf : Cd → Prop
  | .less _ _ => True
  | .same _ _ => True
  | _ => False
def inC (is as : List Wd) : Cd → Prop
  | .less e f => inE is as e ∧ inE is as f ∧ dep e ≤ 1 ∧ dep f ≤ 1
  | .same e f => inE is as e ∧ inE is as f ∧ dep e ≤ 1 ∧ dep f ≤ 1
  | .not c => lf c ∧ inC is as c
  | .and c d => (lf c ∧ inC is as c) ∧ (lf d ∧ inC is as d)
  | .or c d => (lf c ∧ inC is as c) ∧ (lf d ∧ inC is as d)
def cmps : Cd → Nat
  | .less _ _ => 1
  | .same _ _ => 1
  | .not c => cmps c
  | .and c d => cmps c + cmps d
  | .or c d => cmps c + cmps d
theorem at1x (d : D) : atI [d] 0 = some d := rfl
theorem put1x (d x : D) : putC (.L [d]) (.int 0) x = some (.L [x]) := rfl
theorem three_at (a b c : D) (v : Nat) (h : v < 3) : atI [a, b, c] (v : Int) = some (if v = 0 then a else if v = 1 then b else c) := by
  have : v = 0 ∨ v = 1 ∨ v = 2 := by omega
  rcases this with rfl | rfl | rfl
  · exact atI_zero a [b, c]
  · exact atI_1 a b [c]
  · exact atI_2 a b c []
theorem wtest (k : Nat) {is as : List Wd} (hi : 1 ≤ is.length) (hi2 : is.length ≤ 9) (ha : 1 ≤ as.length) (ha2 : as.length ≤ 9) (st : DS) (R : List Cell) (b : Int) :
    ∃ (c : Cd) (st' : DS) (b' : Int), inC is as c ∧ 1 ≤ cmps c ∧ (cmps c : Int) + b' = b ∧ (1 ≤ b → 0 ≤ b') ∧ Phi tb (k + 5) 41 [.ref 0, .lst (is.map .str), .lst (as.map .str), .ref (R.length + 1)] (st.cell :: bh R b) = .ok false c.toD (st'.cell :: bh R b') := by
  obtain ⟨e, st1, he, hde, e1⟩ := value hi hi2 ha ha2 1 k st (bh R (b - 1))
  obtain ⟨u, st2, hu, e2⟩ := drawI (k + 3) st1 (bh R (b - 1)) 3 (by decide) (by decide)
  obtain ⟨f, st3, hf, hdf, e3⟩ := value hi hi2 ha ha2 1 k st2 (bh R (b - 1))
  obtain ⟨v, st4, hv, e4⟩ := drawI (k + 3) st3 (bh R (b - 1)) 6 (by decide) (by decide)
  have e1 : Phi tb (k + 4) 39 [.ref 0, .lst (is.map .str), .lst (as.map .str), .int 1] (st.cell :: bh R (b - 1)) = .ok false e.toD (st1.cell :: bh R (b - 1)) := e1
  have e3 : Phi tb (k + 4) 39 [.ref 0, .lst (is.map .str), .lst (as.map .str), .int 1] (st2.cell :: bh R (b - 1)) = .ok false f.toD (st3.cell :: bh R (b - 1)) := e3
  have h3 := three_at (.str kless) (.str kless) (.str ksame) u (by omega)
  let c0 : Cd := if u = 2 then .same e f else .less e f
  have hc0 : c0.toD = .tup [if u = 0 then .str kless else if u = 1 then .str kless else .str ksame, e.toD, f.toD] := by
    have : u = 0 ∨ u = 1 ∨ u = 2 := by omega
    rcases this with rfl | rfl | rfl <;> rfl
  have hlf : lf c0 := by
    simp only [c0]
    split <;> trivial
  have hin : inC is as c0 := by
    simp only [c0]
    split <;> exact ⟨he, hf, hde, hdf⟩
  have hcm : cmps c0 = 1 := by
    simp only [c0]
    split <;> rfl
  have g0 := bh_get st.cell R b
  have s0 := bh_set st.cell R b (b - 1)
  have g4 := bh_get st4.cell R (b - 1)
  have s4 := bh_set st4.cell R (b - 1) (b - 1 - 1)
  let z : Slot → Slot → Slot → DS → Int → Sta := fun x y w s b => ⟨[.sh (.ref 0), .sh (.lst (is.map .str)), .sh (.lst (as.map .str)), .sh (.ref (R.length + 1)), x, y, w], s.cell :: bh R b⟩
  have hstart : ∀ (r : RS) (f' : FRes), execs (prog tb (k + 4)) f41.body.tail.tail.tail.tail (z (.sh e.toD) (.sh c0.toD) (.sh (.int v)) st4 (b - 1)) = r → fin (st.cell :: bh R b).length r = f' → Phi tb (k + 5) 41 [.ref 0, .lst (is.map .str), .lst (as.map .str), .ref (R.length + 1)] (st.cell :: bh R b) = f' := fun r f' hr hf' => by
    rw [phi_succ (fn := f41) rfl rfl (by decide)]
    show fin (st.cell :: bh R b).length (execs (prog tb (k + 4)) f41.body (z .no .no .no st b)) = _
    rw [← hf', ← hr]
    unfold f41
    simp only [List.tail_cons]
    refine fin_seq (s1 := z .no .no .no st (b - 1)) ?_ ?_
    · simp only [z]
      generalize hB : bh R b = B at g0 s0 ⊢
      generalize R.length + 1 = m at g0 s0 ⊢
      simp! [g0, s0, at1x, put1x]
    refine fin_seq (s1 := z (.sh e.toD) .no .no st1 (b - 1)) ?_ ?_
    · simp only [z]
      generalize e.toD = ed at e1 ⊢
      simp! [e1]
    refine fin_seq (s1 := z (.sh e.toD) (.sh c0.toD) .no st3 (b - 1)) ?_ ?_
    · simp only [z]
      rw [hc0]
      generalize (if u = 0 then D.str kless else if u = 1 then D.str kless else .str ksame) = kd at h3 ⊢
      generalize (u : Int) = uu at e2 h3
      generalize e.toD = ed
      generalize f.toD = fd at e3 ⊢
      simp! [e2, h3, e3]
    · refine fin_seq (s1 := z (.sh e.toD) (.sh c0.toD) (.sh (.int v)) st4 (b - 1)) ?_ rfl
      simp only [z]
      generalize (v : Int) = w at e4 ⊢
      simp! [e4]
  have fin' : ∀ (d : D) (s : DS) (b2 : Int), fin (st.cell :: bh R b).length (.ret false d (z (.sh e.toD) (.sh c0.toD) (.sh (.int v)) s b2)) = .ok false d (s.cell :: bh R b2) := fun d s b2 => by simp [fin, gc, z, bh]
  unfold f41 at hstart
  simp only [List.tail_cons] at hstart
  by_cases h0 : (v : Int) = 0
  · refine ⟨.not c0, st4, b - 1, ⟨hlf, hin⟩, by simp only [cmps]; omega, by simp only [cmps]; omega, by omega, hstart _ _ (seq_ret (exec_if_true (s1 := z (.sh e.toD) (.sh c0.toD) (.sh (.int v)) st4 (b - 1)) ?_ (one_ret.trans (?_ : _ = RS.ret false (Cd.not c0).toD (z (.sh e.toD) (.sh c0.toD) (.sh (.int v)) st4 (b - 1)))))) (fin' _ _ _)⟩
    · simp only [z]
      generalize (v : Int) = w at h0 ⊢
      simp! [h0]
    · simp only [z, Cd.toD]
      simp! []
  · have sk : exec (prog tb (k + 4)) (.ife (.cmp .Eq (.v 6) (.lit (.int 0))) [(.ret (.tup [(.lit (.str [110, 111, 116])), (.v 5)]))] []) (z (.sh e.toD) (.sh c0.toD) (.sh (.int v)) st4 (b - 1)) = .next (z (.sh e.toD) (.sh c0.toD) (.sh (.int v)) st4 (b - 1)) := by
      refine exec_if_false (s1 := z (.sh e.toD) (.sh c0.toD) (.sh (.int v)) st4 (b - 1)) ?_ exs_nil
      simp only [z]
      generalize (v : Int) = w at h0 ⊢
      simp! [h0]
    have hcond : evt (prog tb (k + 4)) (.bop true [(.cmp .Eq (.v 6) (.lit (.int 1))), (.cmp .Gt (.pr .ix [(.v 3), (.lit (.int 0))]) (.lit (.int 0)))]) (z (.sh e.toD) (.sh c0.toD) (.sh (.int v)) st4 (b - 1)) = .ok (decide ((v : Int) = 1) && decide (0 < b - 1)) (z (.sh e.toD) (.sh c0.toD) (.sh (.int v)) st4 (b - 1)) := by
      simp only [z]
      generalize (v : Int) = w
      generalize b - 1 = b1 at g4 ⊢
      generalize hB : bh R b1 = B at g4 ⊢
      generalize R.length + 1 = m at g4 ⊢
      by_cases hw : w = 1
      · simp! [hw, g4, at1x]
      · simp! [hw, g4, at1x]
    by_cases h1 : (v : Int) = 1 ∧ 0 < b - 1
    · have hc : (decide ((v : Int) = 1) && decide (0 < b - 1)) = true := by rw [decide_eq_true h1.1, decide_eq_true h1.2]; rfl
      rw [hc] at hcond
      obtain ⟨q, st5, hq, e5⟩ := drawI (k + 3) st4 (bh R (b - 1 - 1)) 2 (by decide) (by decide)
      have h2 := two_at (.str kand) (.str kor) q (by omega)
      refine ⟨if q = 0 then .and c0 (.less e (.num 3)) else .or c0 (.less e (.num 3)), st5, b - 1 - 1, ?_, ?_, ?_, by omega, hstart _ _ ((seq_next sk).trans (seq_ret (exec_if_true hcond (seq_go (s1 := z (.sh e.toD) (.sh c0.toD) (.sh (.int v)) st4 (b - 1 - 1)) ?_ (one_ret.trans (?_ : _ = RS.ret false _ (z (.sh e.toD) (.sh c0.toD) (.sh (.int v)) st5 (b - 1 - 1)))))))) (fin' _ _ _)⟩
      · split <;> exact ⟨⟨hlf, hin⟩, trivial, he, ⟨by decide, by decide⟩, hde, by simp [dep]⟩
      · split <;> simp only [cmps] <;> omega
      · split <;> simp only [cmps] <;> omega
      · simp only [z]
        generalize b - 1 = b1 at g4 s4 ⊢
        generalize hB : bh R b1 = B at g4 s4 ⊢
        generalize R.length + 1 = m at g4 s4 ⊢
        simp! [g4, s4, at1x, put1x]
      · have hD : (if q = 0 then Cd.and c0 (.less e (.num 3)) else Cd.or c0 (.less e (.num 3))).toD = .tup [if q = 0 then .str kand else .str kor, c0.toD, .tup [.str kless, e.toD, .tup [.str knumber, .int 3]]] := by split <;> rfl
        rw [hD]
        simp only [z]
        generalize (if q = 0 then D.str kand else .str kor) = kd at h2 ⊢
        generalize (q : Int) = qq at e5 h2
        generalize c0.toD = cd
        generalize e.toD = ed
        simp! [e5, h2]
    · have hc : (decide ((v : Int) = 1) && decide (0 < b - 1)) = false := by
        by_cases hw : (v : Int) = 1
        · have : ¬ 0 < b - 1 := fun z => h1 ⟨hw, z⟩
          simp [hw]; omega
        · simp [hw]
      rw [hc] at hcond
      refine ⟨c0, st4, b - 1, hin, by omega, by omega, by omega, hstart _ _ ((seq_next sk).trans ((seq_next (exec_if_false hcond exs_nil)).trans (one_ret.trans (?_ : _ = RS.ret false c0.toD (z (.sh e.toD) (.sh c0.toD) (.sh (.int v)) st4 (b - 1)))))) (fin' _ _ _)⟩
      simp only [z]
      simp! []
end K62

set_option Elab.async false
set_option linter.all false
set_option maxRecDepth 100000
set_option maxHeartbeats 2000000
set_option autoImplicit false
/-! k59: statements and blocks. -/
namespace K62
open Z Co
local macro_rules
  | `(tactic| simp! [$ts,*]) => `(tactic| simp [plains, deeps, D.fit, D.plain, D.deep, lim_ble, lim_blt, cut_fromI, cut_toI, ex_set, ex_setT, ex_aug, ex_put, ex_retv, rt_lit, rt_g, rt_pr, rt_sl, rt_mp, rt_mu, rt_tup, rt_lst, rt_call, rt_callv, rt_notV, rt_bopV, rt_ite, rt_cell, rt_kin, rt_kix, rt_comp, rt_dct, ex_retN, ex_ife, ex_brk, ex_cnt, ex_pass, ex_exp, ex_rais, exs_nil, exs_cons, call_eq, glob_eq, kd_eq, atI_zero, atI_1, atI_2, atI_3, atI_4, atI_5, atI_8, wipeZ, backZ, appendC, extendC, popC, insertC, rd_v, rp_v, rp_pr, rd_lit, rd_g, rd_pr, rd_sl, rd_mp, rd_mu, rd_tup, rd_lst, rd_call, rd_callv, rd_notV, rd_bopV, rd_ite, rd_cell, rd_kin, rd_kix, rd_comp, rd_dct, rd_fn, ev, evs, evo, evrs, evt, evtb, evts, evit, evb, readV, Place.get, Place.set, Arg.get, getAll, Res.bind, Res.then, RS.seq, lift, prim, prim1, prim2, binD, cmpD, ix_lst, ix_tup, ix_str, ix_dct, slD, lenP, lenD, intD, negD, bindTo, assign, assigns, fin, der_non, der_bl, der_int, der_str, der_tup, der_lst, der_dct, der_ref, der_scr, der_fn, gc, fit_str, fit_int, D.eqv, truthD, Cell.view, isList, mutC, mrecv, mprim, mprim2, mprim3, augD, toCell, Option.bind, fromF, isiP, isiD, tupleD, listD, seqOf, noX, iterD, isSh, pix0, pix1, pix2, pix3, pix5, pix8, pder, iix0, iix1, ider, sder, eix0, kind_ne, eder, aix0, aix0e, aix1, ader, cder, $ts,*])
/-- a statement that is drawn, itself -/
def PSt (hs : List Hd) (h : Hd) : St → Prop
  | .set x e => x ∈ h.ints ∧ inE h.ints h.arrs e ∧ dep e ≤ 2
  | .store a i e => a ∈ h.arrs ∧ inE h.ints h.arrs i ∧ inE h.ints h.arrs e ∧ dep i ≤ 1 ∧ dep e ≤ 1
  | .push e a => inE h.ints h.arrs e ∧ dep e ≤ 1 ∧ a ∈ h.arrs
  | .pop x a => x ∈ h.ints ∧ a ∈ h.arrs
  | .pause => True
  | .call f as ts => ∃ q ∈ hs, q.name = f ∧ fits q.items as ∧ (∀ a ∈ as, agOk h a) ∧ (ts = [] ∨ (q.results ≠ [] ∧ ∃ x ∈ h.ints, ts = [x]))
  | .whl c _ => inC h.ints h.arrs c
  | .ite c _ _ => inC h.ints h.arrs c
  | .give _ => False
/-- what of the budget it takes -/
def cost : St → Nat
  | .pop _ _ => 1
  | .whl c _ => cmps c
  | .ite c _ _ => cmps c
  | _ => 0
def costs (l : List St) : Nat := (l.map cost).sum
theorem costs_append (a b : List St) : costs (a ++ b) = costs a + costs b := by simp [costs]
theorem costs_cons (s : St) (l : List St) : costs (s :: l) = cost s + costs l := by simp [costs]
theorem flat_append : ∀ a b : List St, flat (a ++ b) = flat a ++ flat b
  | [], b => rfl
  | s :: a, b => by simp [flat, flat_append a b]
def sz : Nat → Nat
  | 0 => 1
  | n + 1 => 4 * sz n + 2
def StOk (hs : List Hd) (h : Hd) (n : Nat) (b : Int) (s : St) (b' : Int) : Prop :=
  hgt s ≤ n ∧ (flat [s]).length ≤ sz n ∧ (∀ t ∈ flat [s], PSt hs h t) ∧ (costs (flat [s]) : Int) + b' ≤ b ∧ (0 ≤ b → 0 ≤ b')
def BlOk (hs : List Hd) (h : Hd) (n : Nat) (b : Int) (l : List St) (b' : Int) : Prop :=
  1 ≤ l.length ∧ l.length ≤ 2 ∧ hgts l ≤ n ∧ (flat l).length ≤ 2 * sz n ∧ (∀ t ∈ flat l, PSt hs h t) ∧ (costs (flat l) : Int) + b' ≤ b ∧ (0 ≤ b → 0 ≤ b')
theorem leaf_ok {hs : List Hd} {h : Hd} {n : Nat} {b b' : Int} {s : St} (hs0 : sub s = []) (hg : hgt s = 0) (hp : PSt hs h s) (hc : (cost s : Int) + b' ≤ b) (hb : 0 ≤ b → 0 ≤ b') : StOk hs h n b s b' := by
  have hf : flat [s] = [s] := by simp [flat, hs0]
  have h1 : 1 ≤ sz n := by cases n <;> simp [sz] <;> omega
  refine ⟨by omega, by rw [hf]; exact h1, by rw [hf]; simpa using hp, by rw [hf]; simpa [costs] using hc, hb⟩
def SProp (hs : List Hd) (h : Hd) (n : Nat) (k : Nat) (st : DS) (R : List Cell) (b : Int) : Prop := ∃ (s : St) (st' : DS) (b' : Int), StOk hs h n b s b' ∧
  Phi tb (k + 2 * n + 6) 42 [.ref 0, .lst (hs.map headD), headD h, .int n, .ref (R.length + 1)] (st.cell :: bh R b) = .ok false s.toD (st'.cell :: bh R b')
def BProp (hs : List Hd) (h : Hd) (n : Nat) (k : Nat) (st : DS) (R : List Cell) (b : Int) : Prop := ∃ (l : List St) (st' : DS) (b' : Int), BlOk hs h n b l b' ∧
  Phi tb (k + 2 * n + 7) 43 [.ref 0, .lst (hs.map headD), headD h, .int n, .ref (R.length + 1)] (st.cell :: bh R b) = .ok false (.tup (l.map St.toD)) (st'.cell :: bh R b')
def bz (hs : List Hd) (h : Hd) (n m : Int) (r : Nat) (st : DS) (R : List Cell) (b : Int) : Sta := ⟨[.sh (.ref 0), .sh (.lst (hs.map headD)), .sh (headD h), .sh (.int n), .sh (.ref r), .sh (.int m), .no], st.cell :: bh R b⟩
theorem block_comp (k n : Nat) {hs : List Hd} {h : Hd} (IH : ∀ (st : DS) (R : List Cell) (b : Int), SProp hs h n k st R b) (R : List Cell) (m : Int) : ∀ (xs : List Nat) (acc : List St) (st : DS) (b : Int), acc.length + xs.length ≤ 9 →
    ∃ (l : List St) (st' : DS) (b' : Int), l.length = xs.length ∧ hgts l ≤ n ∧ (flat l).length ≤ xs.length * sz n ∧ (∀ t ∈ flat l, PSt hs h t) ∧ (costs (flat l) : Int) + b' ≤ b ∧ (0 ≤ b → 0 ≤ b') ∧
      compL (cturn (prog tb (k + 2 * n + 6)) (.v 6) [6] [] (.call 42 [(.v 0), (.v 1), (.v 2), (.v 3), (.v 4)])) (xs.map fun (i : Nat) => D.int i) (acc.map St.toD) (bz hs h n m (R.length + 1) st R b) = .ok ((acc ++ l).map St.toD) (bz hs h n m (R.length + 1) st' R b')
  | [], acc, st, b, _ => ⟨[], st, b, rfl, by simp [hgts], by simp [flat], by simp [flat], by simp [flat, costs], fun h => h, by simp [compL]⟩
  | i :: xs, acc, st, b, hl => by
    simp only [List.length_cons] at hl
    obtain ⟨s, st1, b1, ⟨g1, g2, g3, g4, g5⟩, e⟩ := IH st R b
    obtain ⟨l, st2, b2, h1, h2, h3, h4, h5, h6, h7⟩ := block_comp k n IH R m xs (acc ++ [s]) st1 b1 (by simp; omega)
    have hf : flat (s :: l) = flat [s] ++ flat l := by simp [flat]
    refine ⟨s :: l, st2, b2, by simp [h1], by simp only [hgts]; omega, ?_, ?_, ?_, fun h => h6 (g5 h), ?_⟩
    · rw [hf, List.length_append, List.length_cons, Nat.add_mul, Nat.one_mul]; omega
    · intro t ht
      rw [hf] at ht
      exact (List.mem_append.mp ht).elim (g3 t) (h4 t)
    · rw [hf, costs_append]; omega
    · have ht : cturn (prog tb (k + 2 * n + 6)) (.v 6) [6] [] (.call 42 [(.v 0), (.v 1), (.v 2), (.v 3), (.v 4)]) (.int i) (bz hs h n m (R.length + 1) st R b) = .ok (some s.toD) (bz hs h n m (R.length + 1) st1 R b1) := by
        simp only [bz]
        generalize s.toD = sd at e ⊢
        generalize (n : Int) = N at e ⊢
        generalize (i : Int) = ii
        generalize R.length + 1 = rr at e ⊢
        simp! [cturn, e]
      have hL : (acc.map St.toD).length < LIM := lim_lt (by rw [List.length_map]; omega)
      simp only [List.map_cons, compL, ht, Res.bind]
      rw [if_pos hL]
      have ea : acc.map St.toD ++ [s.toD] = (acc ++ [s]).map St.toD := by simp
      rw [ea, h7]
      simp
theorem block_step (k n : Nat) {hs : List Hd} {h : Hd} (IH : ∀ (st : DS) (R : List Cell) (b : Int), SProp hs h n k st R b) (st : DS) (R : List Cell) (b : Int) : BProp hs h n k st R b := by
  obtain ⟨v, st1, hv, e1⟩ := drawI (k + 2 * n + 5) st (bh R b) 2 (by decide) (by decide)
  obtain ⟨l, st2, b2, h1, h2, h3, h4, h5, h6, h7⟩ := block_comp k n IH R (1 + (v : Int)) (List.range (1 + v)) [] st1 b (by simp; omega)
  rw [List.length_range] at h1 h3
  have hv' : 1 + v ≤ 2 := by omega
  have hsz : (1 + v) * sz n ≤ 2 * sz n := Nat.mul_le_mul_right _ hv'
  refine ⟨l, st2, b2, ⟨by omega, by omega, h2, by omega, h4, h5, h6⟩, ?_⟩
  have hc : ev (prog tb (k + 2 * n + 6)) f43_c1 (bz hs h n (1 + (v : Int)) (R.length + 1) st1 R b) = .ok (true, .lst (l.map St.toD)) (bz hs h n (1 + (v : Int)) (R.length + 1) st2 R b2) := by
    unfold f43_c1
    refine (ev_comp (s1 := bz hs h n (1 + (v : Int)) (R.length + 1) st1 R b) (s5 := bz hs h n (1 + (v : Int)) (R.length + 1) st2 R b2) (ds := (List.range (1 + v)).map fun (i : Nat) => D.int i) (r := l.map St.toD) ?_ (by simp [bz, isSh]) (by simpa [bz, wipeZ] using h7)).trans (by simp [bz, backZ])
    refine evit_rng (ds := [.int ((1 + v : Nat) : Int)]) ?_ (range_one (1 + v) (lim_le (by omega)))
    have : ((1 + v : Nat) : Int) = 1 + (v : Int) := by omega
    rw [this]
    simp only [bz]
    generalize 1 + (v : Int) = w
    simp! []
  rw [show k + 2 * n + 7 = (k + 2 * n + 6) + 1 from rfl, phi_succ (fn := f43) rfl rfl (by decide)]
  show fin (st.cell :: bh R b).length (execs (prog tb (k + 2 * n + 6)) f43.body ⟨[.sh (.ref 0), .sh (.lst (hs.map headD)), .sh (headD h), .sh (.int n), .sh (.ref (R.length + 1)), .no, .no], st.cell :: bh R b⟩) = _
  unfold f43
  refine fin_seq (s1 := bz hs h n (1 + (v : Int)) (R.length + 1) st1 R b) ?_ ?_
  · simp only [bz]
    generalize (n : Int) = N
    generalize (v : Int) = w at e1 ⊢
    generalize bh R b = B at e1 ⊢
    simp! [e1]
  · have ht : ev (prog tb (k + 2 * n + 6)) (.pr .tupleOf [f43_c1]) (bz hs h n (1 + (v : Int)) (R.length + 1) st1 R b) = .ok (false, .tup (l.map St.toD)) (bz hs h n (1 + (v : Int)) (R.length + 1) st2 R b2) :=
      ev_pr1 (x := .val (.lst (l.map St.toD))) (by rw [f43_c1r, hc]; rfl) rfl rfl
    refine fin_ret (exec_ret ht) ?_
    simp [fin, gc, bz, bh]
end K62

set_option Elab.async false
set_option linter.all false
set_option maxRecDepth 100000
set_option maxHeartbeats 2000000
set_option autoImplicit false
/-! k59: statements. -/
namespace K62
open Z Co
local macro_rules
  | `(tactic| simp! [$ts,*]) => `(tactic| simp [plains, deeps, D.fit, D.plain, D.deep, lim_ble, lim_blt, cut_fromI, cut_toI, ex_set, ex_setT, ex_aug, ex_put, ex_retv, rt_lit, rt_g, rt_pr, rt_sl, rt_mp, rt_mu, rt_tup, rt_lst, rt_call, rt_callv, rt_notV, rt_bopV, rt_ite, rt_cell, rt_kin, rt_kix, rt_comp, rt_dct, ex_retN, ex_ife, ex_brk, ex_cnt, ex_pass, ex_exp, ex_rais, exs_nil, exs_cons, call_eq, glob_eq, kd_eq, atI_zero, atI_1, atI_2, atI_3, atI_4, atI_5, atI_8, wipeZ, backZ, appendC, extendC, popC, insertC, rd_v, rp_v, rp_pr, rd_lit, rd_g, rd_pr, rd_sl, rd_mp, rd_mu, rd_tup, rd_lst, rd_call, rd_callv, rd_notV, rd_bopV, rd_ite, rd_cell, rd_kin, rd_kix, rd_comp, rd_dct, rd_fn, ev, evs, evo, evrs, evt, evtb, evts, evit, evb, readV, Place.get, Place.set, Arg.get, getAll, Res.bind, Res.then, RS.seq, lift, prim, prim1, prim2, binD, cmpD, ix_lst, ix_tup, ix_str, ix_dct, slD, lenP, lenD, intD, negD, bindTo, assign, assigns, fin, der_non, der_bl, der_int, der_str, der_tup, der_lst, der_dct, der_ref, der_scr, der_fn, gc, fit_str, fit_int, D.eqv, truthD, Cell.view, isList, mutC, mrecv, mprim, mprim2, mprim3, augD, toCell, Option.bind, fromF, isiP, isiD, tupleD, listD, seqOf, noX, iterD, isSh, pix0, pix1, pix2, pix3, pix5, pix8, pder, iix0, iix1, ider, sder, eix0, kind_ne, eder, aix0, aix0e, aix1, ader, cder, $ts,*])
theorem ife_skip {P : Prog} {t : T} {a xs : List S} {s s' : Sta} {r : RS} (h : evt P t s = .ok false s') (h2 : execs P xs s' = r) : execs P (.ife t a [] :: xs) s = r := (seq_next (exec_if_false h exs_nil)).trans h2
theorem ife_ret {P : Prog} {t : T} {a b xs : List S} {s s1 s2 : Sta} {o : Bool} {d : D} (h : evt P t s = .ok true s1) (h2 : execs P a s1 = .ret o d s2) : execs P (.ife t a b :: xs) s = .ret o d s2 := seq_ret (exec_if_true h h2)
def sq (hs : List Hd) (h : Hd) (n w : Int) (x a : Wd) (r : Nat) (s10 s11 s12 : Slot) (st : DS) (B : List Cell) : Sta :=
  ⟨[.sh (.ref 0), .sh (.lst (hs.map headD)), .sh (headD h), .sh (.int n), .sh (.ref r), .sh (.lst (h.ints.map .str)), .sh (.lst (h.arrs.map .str)), .sh (.int w), .sh (.str x), .sh (.str a), s10, s11, s12], st.cell :: B⟩
section
variable {P : Prog} {hs : List Hd} {h : Hd} {n w : Int} {x a : Wd} {r : Nat} {s10 s11 s12 : Slot} {st : DS} {B : List Cell} {b : Int}
theorem t_eq (c : Int) : evt P (.cmp .Eq (.v 7) (.lit (.int c))) (sq hs h n w x a r s10 s11 s12 st B) = .ok (decide (w = c)) (sq hs h n w x a r s10 s11 s12 st B) := by
  by_cases hw : w = c
  · simp! [sq, hw]
  · simp! [sq, hw]
theorem t_pop (hB : (st.cell :: B)[r]? = some (.L [.int b])) : evt P (.bop true [(.cmp .Eq (.v 7) (.lit (.int 2))), (.cmp .Gt (.pr .ix [(.v 4), (.lit (.int 0))]) (.lit (.int 0)))]) (sq hs h n w x a r s10 s11 s12 st B) = .ok (decide (w = 2) && decide (0 < b)) (sq hs h n w x a r s10 s11 s12 st B) := by
  by_cases hw : w = 2
  · simp! [sq, hw, hB, at1x]
  · simp! [sq, hw, hB, at1x]
theorem t_call : evt P (.bop true [(.cmp .Lt (.v 7) (.lit (.int 6))), (.cmp .Gt (.v 3) (.lit (.int 0)))]) (sq hs h n w x a r s10 s11 s12 st B) = .ok (decide (w < 6) && decide (0 < n)) (sq hs h n w x a r s10 s11 s12 st B) := by
  by_cases hw : w < 6
  · simp! [sq, hw]
  · simp! [sq, hw]
theorem t_nest (hB : (st.cell :: B)[r]? = some (.L [.int b])) : evt P (.bop true [(.cmp .Gt (.v 7) (.lit (.int 9))), (.cmp .Gt (.v 3) (.lit (.int 0))), (.cmp .Gt (.pr .ix [(.v 4), (.lit (.int 0))]) (.lit (.int 0)))]) (sq hs h n w x a r s10 s11 s12 st B) = .ok (decide (9 < w) && (decide (0 < n) && decide (0 < b))) (sq hs h n w x a r s10 s11 s12 st B) := by
  by_cases hw : 9 < w
  · by_cases hn : 0 < n
    · simp! [sq, hw, hn, hB, at1x]
    · simp! [sq, hw, hn, hB, at1x]
  · simp! [sq, hw, hB, at1x]
end
theorem stmt_step (n k : Nat) {hs : List Hd} (hh : 1 ≤ hs.length) (hh2 : hs.length ≤ 9) (gs : ∀ q ∈ hs, GHd q) {h : Hd} (g : GHd h) (IH : ∀ m, n = m + 1 → ∀ (st : DS) (R : List Cell) (b : Int), BProp hs h m k st R b) (st : DS) (R : List Cell) (b : Int) : SProp hs h n k st R b := by
  have hn1 := g.n1
  have hn0 := g.n0
  have ha1 := g.a1
  have ha0 := g.a0
  obtain ⟨v, st1, hv, e1⟩ := drawI (k + 2 * n + 4) st (bh R b) 14 (by decide) (by decide)
  obtain ⟨x, st2, hx, e2⟩ := one_str (k + 2 * n + 3) st1 (bh R b) h.ints hn1 (by omega)
  obtain ⟨a, st3, ha, e3⟩ := one_str (k + 2 * n + 3) st2 (bh R b) h.arrs ha1 (by omega)
  have hB := bh_get st3.cell R b
  let z : DS → Int → Sta := fun s b => sq hs h n v x a (R.length + 1) .no .no .no s (bh R b)
  have hstart : ∀ (r : RS) (f : FRes), execs (prog tb (k + 2 * n + 5)) f42.body.tail.tail.tail.tail.tail (z st3 b) = r → fin (st.cell :: bh R b).length r = f → Phi tb (k + 2 * n + 6) 42 [.ref 0, .lst (hs.map headD), headD h, .int n, .ref (R.length + 1)] (st.cell :: bh R b) = f := fun r f hr hf => by
    rw [show k + 2 * n + 6 = (k + 2 * n + 5) + 1 from rfl, phi_succ (fn := f42) rfl rfl (by decide)]
    show fin (st.cell :: bh R b).length (execs (prog tb (k + 2 * n + 5)) f42.body ⟨[.sh (.ref 0), .sh (.lst (hs.map headD)), .sh (headD h), .sh (.int n), .sh (.ref (R.length + 1)), .no, .no, .no, .no, .no, .no, .no, .no], st.cell :: bh R b⟩) = _
    rw [← hf, ← hr]
    simp only [z, sq]
    unfold f42
    simp only [List.tail_cons]
    generalize (n : Int) = N
    generalize R.length + 1 = rr
    generalize bh R b = B at e1 e2 e3 ⊢
    generalize (v : Int) = w at e1 ⊢
    refine fin_seq (s1 := ⟨[.sh (.ref 0), .sh (.lst (hs.map headD)), .sh (headD h), .sh (.int N), .sh (.ref rr), .sh (.lst (h.ints.map .str)), .no, .no, .no, .no, .no, .no, .no], st.cell :: B⟩) (by simp! [hix5, hder]) ?_
    refine fin_seq (s1 := ⟨[.sh (.ref 0), .sh (.lst (hs.map headD)), .sh (headD h), .sh (.int N), .sh (.ref rr), .sh (.lst (h.ints.map .str)), .sh (.lst (h.arrs.map .str)), .no, .no, .no, .no, .no, .no], st.cell :: B⟩) (by simp! [hix6, hder]) ?_
    refine fin_seq (s1 := ⟨[.sh (.ref 0), .sh (.lst (hs.map headD)), .sh (headD h), .sh (.int N), .sh (.ref rr), .sh (.lst (h.ints.map .str)), .sh (.lst (h.arrs.map .str)), .sh (.int w), .no, .no, .no, .no, .no], st1.cell :: B⟩) (by simp! [e1]) ?_
    refine fin_seq (s1 := ⟨[.sh (.ref 0), .sh (.lst (hs.map headD)), .sh (headD h), .sh (.int N), .sh (.ref rr), .sh (.lst (h.ints.map .str)), .sh (.lst (h.arrs.map .str)), .sh (.int w), .sh (.str x), .no, .no, .no, .no], st2.cell :: B⟩) (by simp! [e2]) ?_
    refine fin_seq (s1 := ⟨[.sh (.ref 0), .sh (.lst (hs.map headD)), .sh (headD h), .sh (.int N), .sh (.ref rr), .sh (.lst (h.ints.map .str)), .sh (.lst (h.arrs.map .str)), .sh (.int w), .sh (.str x), .sh (.str a), .no, .no, .no], st3.cell :: B⟩) (by simp! [e3]) rfl
  unfold f42 at hstart
  simp only [List.tail_cons] at hstart
  have fin' : ∀ (d : D) (s : DS) (b2 : Int) (s10 s11 s12 : Slot), fin (st.cell :: bh R b).length (.ret false d (sq hs h n v x a (R.length + 1) s10 s11 s12 s (bh R b2))) = .ok false d (s.cell :: bh R b2) := fun d s b2 _ _ _ => by simp [fin, gc, sq, bh]
  have ne : ∀ {c : Int} {s : DS} {b2 : Int} {aa xs : List S} {r : RS}, ¬ (v : Int) = c → execs (prog tb (k + 2 * n + 5)) xs (z s b2) = r → execs (prog tb (k + 2 * n + 5)) (.ife (.cmp .Eq (.v 7) (.lit (.int c))) aa [] :: xs) (z s b2) = r := fun {c s b2 aa xs r} hc h2 => ife_skip (by rw [t_eq, decide_eq_false hc]) h2
  have eq : ∀ {c : Int} {s s2 : DS} {b2 b3 : Int} {aa xs : List S} {d : D}, (v : Int) = c → execs (prog tb (k + 2 * n + 5)) aa (z s b2) = .ret false d (z s2 b3) → execs (prog tb (k + 2 * n + 5)) (.ife (.cmp .Eq (.v 7) (.lit (.int c))) aa [] :: xs) (z s b2) = .ret false d (z s2 b3) := fun {c s s2 b2 b3 aa xs d} hc h2 => ife_ret (by rw [t_eq, decide_eq_true hc]) h2
  by_cases h0 : (v : Int) = 0
  · obtain ⟨e, st4, he, hd, e4⟩ := value hn1 hn0 ha1 ha0 1 (k + 2 * n + 1) st3 (bh R b)
    have e4 : Phi tb (k + 2 * n + 5) 39 [.ref 0, .lst (h.ints.map .str), .lst (h.arrs.map .str), .int 1] (st3.cell :: bh R b) = .ok false e.toD (st4.cell :: bh R b) := e4
    refine ⟨.push e a, st4, b, leaf_ok rfl rfl ⟨he, hd, ha⟩ (by simp [cost]) (fun h => h), hstart _ _ (eq h0 (?_ : _ = RS.ret false (St.push e a).toD (z st4 b))) (fin' _ _ _ _ _ _)⟩
    simp only [z, sq, St.toD]
    generalize e.toD = ed at e4 ⊢
    generalize bh R b = B at e4 ⊢
    generalize (n : Int) = N
    generalize (v : Int) = w
    simp! [e4]
  by_cases h1 : (v : Int) = 1
  · obtain ⟨e, st4, he, hd, e4⟩ := value hn1 hn0 ha1 ha0 1 (k + 2 * n + 1) st3 (bh R b)
    obtain ⟨f, st5, hf, hdf, e5⟩ := value hn1 hn0 ha1 ha0 1 (k + 2 * n + 1) st4 (bh R b)
    have e4 : Phi tb (k + 2 * n + 5) 39 [.ref 0, .lst (h.ints.map .str), .lst (h.arrs.map .str), .int 1] (st3.cell :: bh R b) = .ok false e.toD (st4.cell :: bh R b) := e4
    have e5 : Phi tb (k + 2 * n + 5) 39 [.ref 0, .lst (h.ints.map .str), .lst (h.arrs.map .str), .int 1] (st4.cell :: bh R b) = .ok false f.toD (st5.cell :: bh R b) := e5
    refine ⟨.store a e f, st5, b, leaf_ok rfl rfl ⟨ha, he, hf, hd, hdf⟩ (by simp [cost]) (fun h => h), hstart _ _ (ne h0 (eq h1 (?_ : _ = RS.ret false (St.store a e f).toD (z st5 b)))) (fin' _ _ _ _ _ _)⟩
    simp only [z, sq, St.toD]
    generalize e.toD = ed at e4 ⊢
    generalize f.toD = fd at e5 ⊢
    generalize bh R b = B at e4 e5 ⊢
    generalize (n : Int) = N
    generalize (v : Int) = w
    simp! [e4, e5]
  by_cases h2 : (v : Int) = 2 ∧ 0 < b
  · have hs3 := bh_set st3.cell R b (b - 1)
    have hc : evt (prog tb (k + 2 * n + 5)) (.bop true [(.cmp .Eq (.v 7) (.lit (.int 2))), (.cmp .Gt (.pr .ix [(.v 4), (.lit (.int 0))]) (.lit (.int 0)))]) (z st3 b) = .ok true (z st3 b) := by
      rw [t_pop hB, decide_eq_true h2.1, decide_eq_true h2.2]; rfl
    refine ⟨.pop x a, st3, b - 1, leaf_ok rfl rfl ⟨hx, ha⟩ (by simp [cost]; omega) (by omega), hstart _ _ (ne h0 (ne h1 (ife_ret hc (?_ : _ = RS.ret false (St.pop x a).toD (z st3 (b - 1)))))) (fin' _ _ _ _ _ _)⟩
    simp only [z, sq, St.toD]
    generalize bh R b = B at hB hs3 ⊢
    generalize R.length + 1 = rr at hB hs3 ⊢
    generalize (n : Int) = N
    generalize (v : Int) = w
    simp! [hB, hs3, at1x, put1x]
  have hc2 : evt (prog tb (k + 2 * n + 5)) (.bop true [(.cmp .Eq (.v 7) (.lit (.int 2))), (.cmp .Gt (.pr .ix [(.v 4), (.lit (.int 0))]) (.lit (.int 0)))]) (z st3 b) = .ok false (z st3 b) := by
    rw [t_pop hB]
    by_cases hw : (v : Int) = 2
    · rw [decide_eq_true hw, decide_eq_false (fun q => h2 ⟨hw, q⟩)]; rfl
    · rw [decide_eq_false hw]; rfl
  by_cases h3 : (v : Int) = 3
  · refine ⟨.pause, st3, b, leaf_ok rfl rfl trivial (by simp [cost]) (fun h => h), hstart _ _ (ne h0 (ne h1 (ife_skip hc2 (eq h3 (?_ : _ = RS.ret false St.pause.toD (z st3 b)))))) (fin' _ _ _ _ _ _)⟩
    simp only [z, sq, St.toD]
    generalize (n : Int) = N
    generalize (v : Int) = w
    simp! []
  by_cases h4 : (v : Int) < 6 ∧ 0 < (n : Int)
  · obtain ⟨q, as, ts, st4, f1, f2, f3, f4, e4⟩ := wcall (k + 2 * n) hh hh2 gs g st3 (bh R b)
    have hc : evt (prog tb (k + 2 * n + 5)) (.bop true [(.cmp .Lt (.v 7) (.lit (.int 6))), (.cmp .Gt (.v 3) (.lit (.int 0)))]) (z st3 b) = .ok true (z st3 b) := by
      rw [t_call, decide_eq_true h4.1, decide_eq_true h4.2]; rfl
    refine ⟨.call q.name as ts, st4, b, leaf_ok rfl rfl ⟨q, f1, rfl, f2, f3, f4⟩ (by simp [cost]) (fun h => h), hstart _ _ (ne h0 (ne h1 (ife_skip hc2 (ne h3 (ife_ret hc (?_ : _ = RS.ret false (St.call q.name as ts).toD (z st4 b))))))) (fin' _ _ _ _ _ _)⟩
    simp only [z, sq]
    generalize (St.call q.name as ts).toD = cd at e4 ⊢
    generalize bh R b = B at e4 ⊢
    generalize (n : Int) = N
    generalize (v : Int) = w
    simp! [e4]
  have hc4 : evt (prog tb (k + 2 * n + 5)) (.bop true [(.cmp .Lt (.v 7) (.lit (.int 6))), (.cmp .Gt (.v 3) (.lit (.int 0)))]) (z st3 b) = .ok false (z st3 b) := by
    rw [t_call]
    by_cases hw : (v : Int) < 6
    · rw [decide_eq_true hw, decide_eq_false (fun q => h4 ⟨hw, q⟩)]; rfl
    · rw [decide_eq_false hw]; rfl
  by_cases h5 : 9 < (v : Int) ∧ 0 < (n : Int) ∧ 0 < b
  · have hc : evt (prog tb (k + 2 * n + 5)) (.bop true [(.cmp .Gt (.v 7) (.lit (.int 9))), (.cmp .Gt (.v 3) (.lit (.int 0))), (.cmp .Gt (.pr .ix [(.v 4), (.lit (.int 0))]) (.lit (.int 0)))]) (z st3 b) = .ok true (z st3 b) := by
      rw [t_nest hB, decide_eq_true h5.1, decide_eq_true h5.2.1, decide_eq_true h5.2.2]; rfl
    obtain ⟨m, rfl⟩ : ∃ m, n = m + 1 := ⟨n - 1, by omega⟩
    obtain ⟨c, st4, b4, ci, c1, c2, c3, e4⟩ := wtest (k + 2 * (m + 1)) hn1 hn0 ha1 ha0 st3 R b
    obtain ⟨l, st5, b5, ⟨p1, p2, p3, p4, p5, p6, p7⟩, e5⟩ := IH m rfl st4 R b4
    have hN : ((m + 1 : Nat) : Int) - 1 = (m : Int) := by omega
    have e5 : Phi tb (k + 2 * (m + 1) + 5) 43 [.ref 0, .lst (hs.map headD), headD h, .int m, .ref (R.length + 1)] (st4.cell :: bh R b4) = .ok false (.tup (l.map St.toD)) (st5.cell :: bh R b5) := e5
    let zz : DS → Int → Slot → Sta := fun s b2 s12 => sq hs h ((m + 1 : Nat) : Int) v x a (R.length + 1) (.sh c.toD) (.sh (.tup (l.map St.toD))) s12 s (bh R b2)
    have step1 : ∀ {xs : List S} {r : RS}, execs (prog tb (k + 2 * (m + 1) + 5)) xs (zz st5 b5 .no) = r → execs (prog tb (k + 2 * (m + 1) + 5)) (.set 10 (.call 41 [(.v 0), (.v 5), (.v 6), (.v 4)]) :: .set 11 (.call 43 [(.v 0), (.v 1), (.v 2), (.pr (.bin .Sub) [(.v 3), (.lit (.int 1))]), (.v 4)]) :: xs) (z st3 b) = r := fun {xs r} hr => by
      refine seq_go (s1 := sq hs h ((m + 1 : Nat) : Int) v x a (R.length + 1) (.sh c.toD) .no .no st4 (bh R b4)) ?_ (seq_go (s1 := zz st5 b5 .no) ?_ hr)
      · simp only [z, sq]
        generalize c.toD = cd at e4 ⊢
        generalize R.length + 1 = rr at e4 ⊢
        generalize bh R b = B at e4 ⊢
        generalize bh R b4 = B4 at e4 ⊢
        generalize ((m + 1 : Nat) : Int) = N
        generalize (v : Int) = w
        simp! [e4]
      · simp only [zz, sq]
        generalize c.toD = cd
        generalize D.tup (l.map St.toD) = ld at e5 ⊢
        generalize R.length + 1 = rr at e5 ⊢
        generalize bh R b4 = B4 at e5 ⊢
        generalize bh R b5 = B5 at e5 ⊢
        generalize ((m + 1 : Nat) : Int) = N at hN ⊢
        generalize (v : Int) = w
        simp! [hN, e5]
    have hfw : ∀ (cc : Cd) (bb : List St), flat [St.whl cc bb] = St.whl cc bb :: flat bb := fun cc bb => by simp [flat, sub]
    have hfi : ∀ (cc : Cd) (bb dd : List St), flat [St.ite cc bb dd] = St.ite cc bb dd :: (flat bb ++ flat dd) := fun cc bb dd => by simp [flat, sub]
    by_cases h10 : (v : Int) = 10
    · obtain ⟨u, st6, hu, e6⟩ := drawI (k + 2 * (m + 1) + 4) st5 (bh R b5) 5 (by decide) (by decide)
      let cnt : St := .set x (.plus (.name x) (.num 1))
      have hfl : flat (l ++ [cnt]) = flat l ++ [cnt] := by rw [flat_append]; simp [flat, sub, cnt]
      refine ⟨.whl (.less (.name x) (.num u)) (l ++ [cnt]), st6, b5, ⟨?_, ?_, ?_, ?_, by omega⟩, hstart _ _ (ne h0 (ne h1 (ife_skip hc2 (ne h3 (ife_skip hc4 (ife_ret hc (step1 (ife_ret (s1 := zz st5 b5 .no) (s2 := zz st6 b5 (.sh cnt.toD)) (d := (St.whl (.less (.name x) (.num u)) (l ++ [cnt])).toD) (o := false) (by rw [t_eq, decide_eq_true h10]) ?_)))))))) (fin' _ _ _ _ _ _)⟩
      · have hg : ∀ (l : List St), hgts (l ++ [cnt]) = hgts l := by
          intro l
          induction l with
          | nil => rfl
          | cons s l ih => simp only [List.cons_append, hgts, ih]
        simp only [hgt, hg]; omega
      · rw [hfw, hfl]
        simp only [List.length_cons, List.length_append, List.length_nil, sz]; omega
      · intro t ht
        rw [hfw, hfl] at ht
        rcases List.mem_cons.mp ht with rfl | ht
        · exact ⟨hx, ⟨by omega, by omega⟩, by simp [dep], by simp [dep]⟩
        · rcases List.mem_append.mp ht with ht | ht
          · exact p5 t ht
          · rw [List.mem_singleton.mp ht]
            exact ⟨hx, ⟨hx, ⟨by decide, by decide⟩⟩, by simp [dep]⟩
      · rw [hfw, hfl, costs_cons, costs_append]
        have : costs [cnt] = 0 := rfl
        simp only [cost, cmps]
        omega
      · refine seq_go (s1 := zz st5 b5 (.sh cnt.toD)) ?_ (one_ret.trans ?_)
        · simp only [zz, sq, cnt, St.toD, Ex.toD]
          generalize c.toD = cd
          generalize ((m + 1 : Nat) : Int) = N
          generalize (v : Int) = w
          simp! []
        · have hl1 : l.length + 1 ≤ LIM := lim_le (by omega)
          have hwd : (St.whl (.less (.name x) (.num u)) (l ++ [cnt])).toD = .tup [.str kwhile, .tup [.str kless, .tup [.str kname, .str x], .tup [.str knumber, .int u]], .tup (l.map St.toD ++ [cnt.toD])] := by
            simp only [St.toD, stsD_map, List.map_append, List.map_cons, List.map_nil, Cd.toD, Ex.toD]
          rw [hwd]
          simp only [zz, sq]
          generalize cnt.toD = cnd
          generalize c.toD = cd
          generalize ((m + 1 : Nat) : Int) = N
          generalize (v : Int) = w
          generalize (u : Int) = uu at e6 ⊢
          simp! [e6, hl1]
    by_cases h11 : (v : Int) = 11
    · refine ⟨.whl c l, st5, b5, ⟨by simp only [hgt]; omega, ?_, ?_, ?_, by omega⟩, hstart _ _ (ne h0 (ne h1 (ife_skip hc2 (ne h3 (ife_skip hc4 (ife_ret hc (step1 (ife_skip (s' := zz st5 b5 .no) (by rw [t_eq, decide_eq_false h10]) (ife_ret (s1 := zz st5 b5 .no) (s2 := zz st5 b5 .no) (d := (St.whl c l).toD) (o := false) (by rw [t_eq, decide_eq_true h11]) (one_ret.trans ?_)))))))))) (fin' _ _ _ _ _ _)⟩
      · rw [hfw]
        simp only [List.length_cons, sz]; omega
      · intro t ht
        rw [hfw] at ht
        rcases List.mem_cons.mp ht with rfl | ht
        · exact ci
        · exact p5 t ht
      · rw [hfw, costs_cons]
        simp only [cost]
        omega
      · simp only [zz, sq, St.toD, stsD_map]
        generalize c.toD = cd
        generalize ((m + 1 : Nat) : Int) = N
        generalize (v : Int) = w
        simp! []
    · obtain ⟨l2, st6, b6, ⟨q1, q2, q3, q4, q5, q6, q7⟩, e6⟩ := IH m rfl st5 R b5
      have e6 : Phi tb (k + 2 * (m + 1) + 5) 43 [.ref 0, .lst (hs.map headD), headD h, .int m, .ref (R.length + 1)] (st5.cell :: bh R b5) = .ok false (.tup (l2.map St.toD)) (st6.cell :: bh R b6) := e6
      refine ⟨.ite c l l2, st6, b6, ⟨by simp only [hgt]; omega, ?_, ?_, ?_, by omega⟩, hstart _ _ (ne h0 (ne h1 (ife_skip hc2 (ne h3 (ife_skip hc4 (ife_ret hc (step1 (ife_skip (s' := zz st5 b5 .no) (by rw [t_eq, decide_eq_false h10]) (ife_skip (s' := zz st5 b5 .no) (by rw [t_eq, decide_eq_false h11]) (one_ret.trans (?_ : _ = RS.ret false (St.ite c l l2).toD (zz st6 b6 .no)))))))))))) (fin' _ _ _ _ _ _)⟩
      · rw [hfi]
        simp only [List.length_cons, List.length_append, sz]; omega
      · intro t ht
        rw [hfi] at ht
        rcases List.mem_cons.mp ht with rfl | ht
        · exact ci
        · rcases List.mem_append.mp ht with ht | ht
          · exact p5 t ht
          · exact q5 t ht
      · rw [hfi, costs_cons, costs_append]
        simp only [cost]
        omega
      · simp only [zz, sq, St.toD, stsD_map]
        generalize D.tup (l2.map St.toD) = ld2 at e6 ⊢
        generalize R.length + 1 = rr at e6 ⊢
        generalize bh R b5 = B5 at e6 ⊢
        generalize bh R b6 = B6 at e6 ⊢
        generalize c.toD = cd
        generalize ((m + 1 : Nat) : Int) = N at hN ⊢
        generalize (v : Int) = w
        simp! [hN, e6]
  · have hc5 : evt (prog tb (k + 2 * n + 5)) (.bop true [(.cmp .Gt (.v 7) (.lit (.int 9))), (.cmp .Gt (.v 3) (.lit (.int 0))), (.cmp .Gt (.pr .ix [(.v 4), (.lit (.int 0))]) (.lit (.int 0)))]) (z st3 b) = .ok false (z st3 b) := by
      rw [t_nest hB]
      by_cases hw : 9 < (v : Int)
      · by_cases hw2 : 0 < (n : Int)
        · rw [decide_eq_true hw, decide_eq_true hw2, decide_eq_false (fun q => h5 ⟨hw, hw2, q⟩)]; rfl
        · rw [decide_eq_true hw, decide_eq_false hw2]; rfl
      · rw [decide_eq_false hw]; rfl
    obtain ⟨e, st4, he, hd, e4⟩ := value hn1 hn0 ha1 ha0 2 (k + 2 * n) st3 (bh R b)
    have e4 : Phi tb (k + 2 * n + 5) 39 [.ref 0, .lst (h.ints.map .str), .lst (h.arrs.map .str), .int 2] (st3.cell :: bh R b) = .ok false e.toD (st4.cell :: bh R b) := e4
    refine ⟨.set x e, st4, b, leaf_ok rfl rfl ⟨hx, he, hd⟩ (by simp [cost]) (fun h => h), hstart _ _ (ne h0 (ne h1 (ife_skip hc2 (ne h3 (ife_skip hc4 (ife_skip hc5 (one_ret.trans (?_ : _ = RS.ret false (St.set x e).toD (z st4 b))))))))) (fin' _ _ _ _ _ _)⟩
    simp only [z, sq, St.toD]
    generalize e.toD = ed at e4 ⊢
    generalize bh R b = B at e4 ⊢
    generalize (n : Int) = N
    generalize (v : Int) = w
    simp! [e4]
theorem stmts (k : Nat) {hs : List Hd} (hh : 1 ≤ hs.length) (hh2 : hs.length ≤ 9) (gs : ∀ q ∈ hs, GHd q) {h : Hd} (g : GHd h) : ∀ (n : Nat) (st : DS) (R : List Cell) (b : Int), SProp hs h n k st R b
  | 0, st, R, b => stmt_step 0 k hh hh2 gs g (fun m e => by cases e) st R b
  | n + 1, st, R, b => stmt_step (n + 1) k hh hh2 gs g (fun m e => by cases e; exact fun st R b => block_step k n (stmts k hh hh2 gs g n) st R b) st R b
theorem blocks (k : Nat) {hs : List Hd} (hh : 1 ≤ hs.length) (hh2 : hs.length ≤ 9) (gs : ∀ q ∈ hs, GHd q) {h : Hd} (g : GHd h) (n : Nat) (st : DS) (R : List Cell) (b : Int) : BProp hs h n k st R b := block_step k n (stmts k hh hh2 gs g n) st R b
end K62

set_option Elab.async false
set_option linter.all false
set_option maxRecDepth 100000
set_option maxHeartbeats 2000000
set_option autoImplicit false
/-! k59: cores drawn. -/
namespace K62
open Z Co
local macro_rules
  | `(tactic| simp! [$ts,*]) => `(tactic| simp [plains, deeps, D.fit, D.plain, D.deep, lim_ble, lim_blt, cut_fromI, cut_toI, ex_set, ex_setT, ex_aug, ex_put, ex_retv, rt_lit, rt_g, rt_pr, rt_sl, rt_mp, rt_mu, rt_tup, rt_lst, rt_call, rt_callv, rt_notV, rt_bopV, rt_ite, rt_cell, rt_kin, rt_kix, rt_comp, rt_dct, ex_retN, ex_ife, ex_brk, ex_cnt, ex_pass, ex_exp, ex_rais, exs_nil, exs_cons, call_eq, glob_eq, kd_eq, atI_zero, atI_1, atI_2, atI_3, atI_4, atI_5, atI_8, wipeZ, backZ, appendC, extendC, popC, insertC, rd_v, rp_v, rp_pr, rd_lit, rd_g, rd_pr, rd_sl, rd_mp, rd_mu, rd_tup, rd_lst, rd_call, rd_callv, rd_notV, rd_bopV, rd_ite, rd_cell, rd_kin, rd_kix, rd_comp, rd_dct, rd_fn, ev, evs, evo, evrs, evt, evtb, evts, evit, evb, readV, Place.get, Place.set, Arg.get, getAll, Res.bind, Res.then, RS.seq, lift, prim, prim1, prim2, binD, cmpD, ix_lst, ix_tup, ix_str, ix_dct, slD, lenP, lenD, intD, negD, bindTo, assign, assigns, fin, der_non, der_bl, der_int, der_str, der_tup, der_lst, der_dct, der_ref, der_scr, der_fn, gc, fit_str, fit_int, D.eqv, truthD, Cell.view, isList, mutC, mrecv, mprim, mprim2, mprim3, augD, toCell, Option.bind, fromF, isiP, isiD, tupleD, listD, seqOf, noX, iterD, isSh, pix0, pix1, pix2, pix3, pix5, pix8, pder, iix0, iix1, ider, sder, eix0, kind_ne, eder, aix0, aix0e, aix1, ader, cder, $ts,*])
/-- the procedure of a head -/
def mkP (h : Hd) (body : List St) : Proc := ⟨h.name, h.items, h.results, h.places, [], body⟩
/-- a body that is drawn -/
def BodyOk (hs : List Hd) (h : Hd) (body : List St) : Prop := ∃ (l1 l2 : List St) (b1 b2 : Int), BlOk hs h 2 4 l1 b1 ∧ BlOk hs h 1 b1 l2 b2 ∧ ((h.results = [] ∧ body = l1 ++ l2) ∨ (h.results = [kresult] ∧ ∃ e, inE h.ints h.arrs e ∧ dep e ≤ 1 ∧ body = l1 ++ l2 ++ [.give e]))
def al2 (hs : List Hd) : List Hd → List Proc → Prop
  | [], [] => True
  | h :: r, p :: c => (∃ body, p = mkP h body ∧ BodyOk hs h body) ∧ al2 hs r c
  | _, _ => False
/-! heads -/
theorem heads_comp (k : Nat) : ∀ (xs : List Wd) (acc : List Hd) (st : DS) (R : List Cell), (∀ x ∈ xs, x.length ≤ 99) → acc.length + xs.length ≤ 9 →
    ∃ (hs : List Hd) (st' : DS), hs.map (·.name) = xs ∧ (∀ h ∈ hs, GHd h) ∧ compL (cturn (prog tb (k + 3)) (.v 2) [2] [] (.call 38 [(.v 0), (.v 2)])) (xs.map .str) (acc.map headD) ⟨[.sh (.ref 0), .no, .no, .no, .no, .no, .no, .no], st.cell :: R⟩ = .ok ((acc ++ hs).map headD) ⟨[.sh (.ref 0), .no, .no, .no, .no, .no, .no, .no], st'.cell :: R⟩
  | [], acc, st, R, _, _ => ⟨[], st, rfl, by simp, by simp [compL]⟩
  | x :: xs, acc, st, R, hx, hl => by
    simp only [List.length_cons] at hl
    obtain ⟨h, st1, hn, g, e⟩ := head k st R x (hx x List.mem_cons_self)
    obtain ⟨hs, st2, h1, h2, h3⟩ := heads_comp k xs (acc ++ [h]) st1 R (fun y hy => hx y (List.mem_cons_of_mem _ hy)) (by simp; omega)
    refine ⟨h :: hs, st2, by simp [hn, h1], fun y hy => (List.mem_cons.mp hy).elim (fun e => e ▸ g) (h2 y), ?_⟩
    have ht : cturn (prog tb (k + 3)) (.v 2) [2] [] (.call 38 [(.v 0), (.v 2)]) (.str x) ⟨[.sh (.ref 0), .no, .no, .no, .no, .no, .no, .no], st.cell :: R⟩ = .ok (some (headD h)) ⟨[.sh (.ref 0), .no, .no, .no, .no, .no, .no, .no], st1.cell :: R⟩ := by
      simp! [cturn, e]
    have hL : (acc.map headD).length < LIM := lim_lt (by rw [List.length_map]; omega)
    simp only [List.map_cons, compL, ht, Res.bind]
    rw [if_pos hL]
    have ea : acc.map headD ++ [headD h] = (acc ++ [h]).map headD := by simp
    rw [ea, h3]
    simp
theorem strsOf_map : ∀ l : List Wd, strsOf (l.map D.str) = some l
  | [] => rfl
  | x :: l => by simp [strsOf, strsOf_map l]
def insLp (x : Wd) : ∀ l : List Wd, (insL x l).Perm (x :: l)
  | [] => List.Perm.refl _
  | y :: r => by
    unfold insL
    split
    · exact ((insLp x r).cons y).trans (List.Perm.swap x y r)
    · exact List.Perm.refl _
theorem sortLp : ∀ l : List Wd, (sortL l).Perm l
  | [] => List.Perm.refl _
  | x :: r => (insLp x (sortL r)).trans ((sortLp r).cons x)
/-! the loop over the heads -/
def cz (hs : List Hd) (acc : List Proc) (j4 j5 j6 j7 : Slot) (st : DS) (R : List Cell) : Sta := ⟨[.sh (.ref 0), .sh (.lst (hs.map headD)), .no, .own (.L (acc.map Proc.toD)), j4, j5, j6, j7], st.cell :: R⟩
theorem core_loop (k : Nat) {hs : List Hd} (hh : 1 ≤ hs.length) (hh2 : hs.length ≤ 9) (gs : ∀ q ∈ hs, GHd q) : ∀ (xs : List Hd) (acc : List Proc) (j4 j5 j6 j7 : Slot) (st : DS) (R : List Cell), (∀ h ∈ xs, GHd h) → acc.length + xs.length ≤ 9 →
    ∃ (c : List Proc) (k4 k5 k6 k7 : Slot) (st' : DS) (R' : List Cell), al2 hs xs c ∧ forL (fbody (prog tb (k + 11)) (.v 4) f44_b2) (xs.map headD) (cz hs acc j4 j5 j6 j7 st R) = .next (cz hs (acc ++ c) k4 k5 k6 k7 st' R')
  | [], acc, j4, j5, j6, j7, st, R, _, _ => ⟨[], j4, j5, j6, j7, st, R, trivial, by simp [forL]⟩
  | h :: xs, acc, j4, j5, j6, j7, st, R, hg, hl => by
    simp only [List.length_cons] at hl
    have g := hg h List.mem_cons_self
    obtain ⟨l1, st1, b1, ok1, e1⟩ := blocks k hh hh2 gs g 2 st R 4
    obtain ⟨l2, st2, b2, ok2, e2⟩ := blocks (k + 2) hh hh2 gs g 1 st1 R b1
    have e1 : Phi tb (k + 11) 43 [.ref 0, .lst (hs.map headD), headD h, .int 2, .ref (R.length + 1)] (st.cell :: bh R 4) = .ok false (.tup (l1.map St.toD)) (st1.cell :: bh R b1) := e1
    have e2 : Phi tb (k + 11) 43 [.ref 0, .lst (hs.map headD), headD h, .int 1, .ref (R.length + 1)] (st1.cell :: bh R b1) = .ok false (.tup (l2.map St.toD)) (st2.cell :: bh R b2) := e2
    have hacc : acc.length < LIM := lim_lt (by omega)
    have hlen : l1.length + l2.length ≤ LIM := lim_le (by have := ok1.2.1; have := ok2.2.1; omega)
    let z : Slot → Slot → DS → List Cell → Sta := fun x6 x7 s B => ⟨[.sh (.ref 0), .sh (.lst (hs.map headD)), .no, .own (.L (acc.map Proc.toD)), .sh (headD h), .sh (.ref (R.length + 1)), x6, x7], s.cell :: B⟩
    -- the body
    obtain ⟨body, st3, hbody, e3⟩ : ∃ (body : List St) (st3 : DS), BodyOk hs h body ∧ exec (prog tb (k + 11)) (.ife (.cmp .NotEq (.pr .ix [(.v 4), (.lit (.str kresults))]) (.tup [])) [(.set 6 (.pr (.bin .Add) [(.v 6), (.tup [(.tup [(.lit (.str [103, 105, 118, 101])), (.tup [(.call 39 [(.v 0), (.pr .ix [(.v 4), (.lit (.str kints))]), (.pr .ix [(.v 4), (.lit (.str karrays))]), (.lit (.int 1))])])])])]))] []) (z (.sh (.tup ((l1 ++ l2).map St.toD))) j7 st2 (bh R b2)) = .next (z (.sh (.tup (body.map St.toD))) j7 st3 (bh R b2)) := by
      by_cases hr : h.results = []
      · refine ⟨l1 ++ l2, st2, ⟨l1, l2, b1, b2, ok1, ok2, .inl ⟨hr, rfl⟩⟩, exec_if_false (s1 := z (.sh (.tup ((l1 ++ l2).map St.toD))) j7 st2 (bh R b2)) ?_ exs_nil⟩
        simp only [z]
        generalize (l1 ++ l2).map St.toD = ll
        simp! [hix4, hder, hr, sD, plains, deeps, eqvs]
      · have hr1 : h.results = [kresult] := g.rl.resolve_left hr
        obtain ⟨e, st3, he, hd, e3⟩ := value g.n1 g.n0 g.a1 g.a0 1 (k + 7) st2 (bh R b2)
        have e3 : Phi tb (k + 11) 39 [.ref 0, .lst (h.ints.map .str), .lst (h.arrs.map .str), .int 1] (st2.cell :: bh R b2) = .ok false e.toD (st3.cell :: bh R b2) := e3
        refine ⟨l1 ++ l2 ++ [.give e], st3, ⟨l1, l2, b1, b2, ok1, ok2, .inr ⟨hr1, e, he, hd, rfl⟩⟩, exec_if_true (s1 := z (.sh (.tup ((l1 ++ l2).map St.toD))) j7 st2 (bh R b2)) ?_ (one_ret.trans ?_)⟩
        · simp only [z]
          generalize (l1 ++ l2).map St.toD = ll
          simp! [hix4, hder, hr1, sD, plains, deeps, eqvs]
        · have hl3 : ((l1 ++ l2).map St.toD).length + 1 ≤ LIM := lim_le (by rw [List.length_map, List.length_append]; have := ok1.2.1; have := ok2.2.1; omega)
          have hm : (l1 ++ l2 ++ [St.give e]).map St.toD = (l1 ++ l2).map St.toD ++ [.tup [.str kgive, .tup [e.toD]]] := by rw [List.map_append]; rfl
          rw [hm]
          simp only [z]
          generalize (l1 ++ l2).map St.toD = ll at hl3 ⊢
          generalize e.toD = ed at e3 ⊢
          generalize bh R b2 = B at e3 ⊢
          simp! [hix5, hix6, hder, e3, hl3]
    obtain ⟨c, k4, k5, k6, k7, st4, R', a1, a2⟩ := core_loop k hh hh2 gs xs (acc ++ [mkP h body]) (.sh (headD h)) (.sh (.ref (R.length + 1))) (.sh (.tup (body.map St.toD))) (.sh (.tup (h.items.map Itm.toD))) st3 (bh R b2) (fun y hy => hg y (List.mem_cons_of_mem _ hy)) (by simp; omega)
    refine ⟨mkP h body :: c, k4, k5, k6, k7, st4, R', ⟨⟨body, rfl, hbody⟩, a1⟩, ?_⟩
    have hb : fbody (prog tb (k + 11)) (.v 4) f44_b2 (headD h) (cz hs acc j4 j5 j6 j7 st R) = .next (cz hs (acc ++ [mkP h body]) (.sh (headD h)) (.sh (.ref (R.length + 1))) (.sh (.tup (body.map St.toD))) (.sh (.tup (h.items.map Itm.toD))) st3 (bh R b2)) := by
      refine fbody_v (by simp [cz]) ?_
      unfold f44_b2
      refine seq_go (s1 := z j6 j7 st (bh R 4)) (by simp! [cz, z, bh]) ?_
      refine seq_go (s1 := z (.sh (.tup ((l1 ++ l2).map St.toD))) j7 st2 (bh R b2)) ?_ ?_
      · simp only [z]
        rw [List.map_append]
        have hlen' : (l1.map St.toD).length + (l2.map St.toD).length ≤ LIM := by rw [List.length_map, List.length_map]; exact hlen
        generalize l1.map St.toD = d1 at e1 hlen' ⊢
        generalize l2.map St.toD = d2 at e2 hlen' ⊢
        generalize R.length + 1 = rr at e1 e2 ⊢
        generalize bh R 4 = B4 at e1 ⊢
        generalize bh R b1 = B1 at e1 e2 ⊢
        generalize bh R b2 = B2 at e2 ⊢
        simp! [e1, e2, hlen']
      refine seq_go e3 ?_
      refine seq_go (s1 := z (.sh (.tup (body.map St.toD))) (.sh (.tup (h.items.map Itm.toD))) st3 (bh R b2)) (by simp! [z, hix2, hder]) (seq_end ?_)
      have hp : (mkP h body).toD = .tup [.str h.name, .tup (h.items.map Itm.toD), sD h.results, .tup (h.places.map Itm.toD), .tup [], .tup [], .tup [], .tup [], .tup (body.map St.toD)] := rfl
      simp only [z, cz, List.map_append, List.map_cons, List.map_nil, hp]
      simp! [hix1, hix2, hix3, hix4, hder, hacc]
    simp only [List.map_cons, forL, hb]
    rw [a2]
    simp
end K62

set_option Elab.async false
set_option linter.all false
set_option maxRecDepth 100000
set_option maxHeartbeats 2000000
set_option autoImplicit false
/-! k59: what a drawn core is. -/
namespace K62
open Z Co
local macro_rules
  | `(tactic| simp! [$ts,*]) => `(tactic| simp [plains, deeps, D.fit, D.plain, D.deep, lim_ble, lim_blt, cut_fromI, cut_toI, ex_set, ex_setT, ex_aug, ex_put, ex_retv, rt_lit, rt_g, rt_pr, rt_sl, rt_mp, rt_mu, rt_tup, rt_lst, rt_call, rt_callv, rt_notV, rt_bopV, rt_ite, rt_cell, rt_kin, rt_kix, rt_comp, rt_dct, ex_retN, ex_ife, ex_brk, ex_cnt, ex_pass, ex_exp, ex_rais, exs_nil, exs_cons, call_eq, glob_eq, kd_eq, atI_zero, atI_1, atI_2, atI_3, atI_4, atI_5, atI_8, wipeZ, backZ, appendC, extendC, popC, insertC, rd_v, rp_v, rp_pr, rd_lit, rd_g, rd_pr, rd_sl, rd_mp, rd_mu, rd_tup, rd_lst, rd_call, rd_callv, rd_notV, rd_bopV, rd_ite, rd_cell, rd_kin, rd_kix, rd_comp, rd_dct, rd_fn, ev, evs, evo, evrs, evt, evtb, evts, evit, evb, readV, Place.get, Place.set, Arg.get, getAll, Res.bind, Res.then, RS.seq, lift, prim, prim1, prim2, binD, cmpD, ix_lst, ix_tup, ix_str, ix_dct, slD, lenP, lenD, intD, negD, bindTo, assign, assigns, fin, der_non, der_bl, der_int, der_str, der_tup, der_lst, der_dct, der_ref, der_scr, der_fn, gc, fit_str, fit_int, D.eqv, truthD, Cell.view, isList, mutC, mrecv, mprim, mprim2, mprim3, augD, toCell, Option.bind, fromF, isiP, isiD, tupleD, listD, seqOf, noX, iterD, isSh, pix0, pix1, pix2, pix3, pix5, pix8, pder, iix0, iix1, ider, sder, eix0, kind_ne, eder, aix0, aix0e, aix1, ader, cder, $ts,*])
theorem al2_names : ∀ {hs0 hs : List Hd} {c : List Proc}, al2 hs0 hs c → c.map (·.name) = hs.map (·.name)
  | _, [], [], _ => rfl
  | hs0, h :: hs, p :: c, a => by
    obtain ⟨⟨body, rfl, _⟩, a⟩ := a
    simp only [List.map_cons, al2_names a]
    rfl
theorem al2_mem : ∀ {hs0 hs : List Hd} {c : List Proc} {p : Proc}, al2 hs0 hs c → p ∈ c → ∃ h ∈ hs, ∃ body, p = mkP h body ∧ BodyOk hs0 h body
  | _, [], _ :: _, _, a, _ => False.elim a
  | _, _, [], _, _, hp => by cases hp
  | hs0, h :: hs, q :: c, p, a, hp => by
    obtain ⟨⟨body, rfl, b⟩, a⟩ := a
    rcases List.mem_cons.mp hp with rfl | hp
    · exact ⟨h, List.mem_cons_self, body, rfl, b⟩
    · obtain ⟨h', h1, r⟩ := al2_mem a hp
      exact ⟨h', List.mem_cons_of_mem _ h1, r⟩
theorem al2_of : ∀ {hs0 hs : List Hd} {c : List Proc} {h : Hd}, al2 hs0 hs c → h ∈ hs → ∃ body, mkP h body ∈ c
  | hs0, g :: hs, q :: c, h, a, hh => by
    obtain ⟨⟨body, rfl, b⟩, a⟩ := a
    rcases List.mem_cons.mp hh with rfl | hh
    · exact ⟨body, List.mem_cons_self⟩
    · obtain ⟨body, hb⟩ := al2_of a hh
      exact ⟨body, List.mem_cons_of_mem _ hb⟩
theorem ints_len {h : Hd} (g : GHd h) {x : Wd} (hx : x ∈ h.ints) : x.length ≤ 99 := by
  obtain ⟨i, hi, rfl⟩ := List.mem_map.mp hx
  exact g.xl i (List.mem_filter.mp hi).1
theorem ag_args {h : Hd} : ∀ {as : List Ag}, (∀ a ∈ as, agOk h a) → argsIn h.arrs as
  | [], _ => trivial
  | .arr x :: as, H => ⟨H _ List.mem_cons_self, ag_args fun a ha => H a (List.mem_cons_of_mem _ ha)⟩
  | .ex e :: as, H => ag_args (as := as) fun a ha => H a (List.mem_cons_of_mem _ ha)
theorem pst_gst {hs : List Hd} {c : List Proc} (A : al2 hs hs c) {h : Hd} (g : GHd h) (body : List St) {s : St} (p : PSt hs h s) : GSt c (mkP h body) s := by
  cases s with
  | set x e => exact ints_len g p.1
  | store a i e => exact p.1
  | push e a => exact p.2.2
  | pop x a => exact ⟨ints_len g p.1, p.2⟩
  | pause => trivial
  | call f as ts =>
    obtain ⟨q, hq, rfl, h1, h2, h3⟩ := p
    obtain ⟨b, hb⟩ := al2_of A hq
    refine ⟨⟨mkP q b, hb, rfl, h1⟩, ag_args h2, ?_⟩
    rcases h3 with rfl | ⟨_, x, _, rfl⟩ <;> simp
  | whl c b => trivial
  | ite c b d => trivial
  | give e => trivial
theorem hgts_append : ∀ a b : List St, hgts (a ++ b) = max (hgts a) (hgts b)
  | [], b => by simp [hgts]
  | s :: a, b => by simp [hgts, hgts_append a b, Nat.max_assoc]
theorem body_facts {hs : List Hd} {h : Hd} {body : List St} (B : BodyOk hs h body) : hgts body ≤ 2 ∧ (flat body).length ≤ 65 ∧ ∀ s ∈ flat body, PSt hs h s ∨ ∃ e, s = .give e := by
  obtain ⟨l1, l2, b1, b2, o1, o2, B⟩ := B
  obtain ⟨_, _, g1, n1, p1, _⟩ := o1
  obtain ⟨_, _, g2, n2, p2, _⟩ := o2
  have s2 : sz 2 = 26 := rfl
  have s1 : sz 1 = 6 := rfl
  have key : hgts (l1 ++ l2) ≤ 2 ∧ (flat (l1 ++ l2)).length ≤ 64 ∧ ∀ s ∈ flat (l1 ++ l2), PSt hs h s := by
    refine ⟨by rw [hgts_append]; omega, by rw [flat_append, List.length_append]; omega, fun s hs' => ?_⟩
    rw [flat_append] at hs'
    exact (List.mem_append.mp hs').elim (p1 s) (p2 s)
  rcases B with ⟨_, rfl⟩ | ⟨_, e, _, _, rfl⟩
  · exact ⟨key.1, by omega, fun s hs' => .inl (key.2.2 s hs')⟩
  · have hf : flat (l1 ++ l2 ++ [St.give e]) = flat (l1 ++ l2) ++ [.give e] := by rw [flat_append]; simp [flat, sub]
    refine ⟨by rw [hgts_append]; simp [hgts, hgt]; have := key.1; omega, by rw [hf, List.length_append, List.length_singleton]; omega, fun s hs' => ?_⟩
    rw [hf] at hs'
    rcases List.mem_append.mp hs' with h | h
    · exact .inl (key.2.2 s h)
    · exact .inr ⟨e, List.mem_singleton.mp h⟩
theorem gcore {hs : List Hd} {c : List Proc} (A : al2 hs hs c) (gs : ∀ h ∈ hs, GHd h) (hl : hs.length ≤ 2) (nd : (hs.map (·.name)).Nodup) : GCore c := by
  have hn := al2_names A
  have hlen : c.length = hs.length := by have := congrArg List.length hn; simpa using this
  refine ⟨by omega, by rw [hn]; exact nd, fun p hp => ?_⟩
  obtain ⟨h, hh, body, rfl, B⟩ := al2_mem A hp
  have g := gs h hh
  obtain ⟨f1, f2, f3⟩ := body_facts B
  refine ⟨g.nm, f1, Nat.le_trans f2 (by decide), fun s hs' => ?_, g.il, ?_, ?_, fun i hi => g.xl i (List.mem_append_left _ hi), fun i hi => g.xl i (List.mem_append_right _ hi), g.a3, fun i hi ha hx => ?_⟩
  · rcases f3 s hs' with h | ⟨e, rfl⟩
    · exact pst_gst A g body h
    · trivial
  · show h.places.length ≤ 9
    have := g.pl; omega
  · show h.results.length ≤ 9
    rcases g.rl with e | e <;> rw [e] <;> decide
  · have hx : i.x ∈ h.arrs := hx
    obtain ⟨j, hj, e⟩ := List.mem_map.mp hx
    obtain ⟨hj1, hj2⟩ := List.mem_filter.mp hj
    have hi' : i ∈ h.vars := List.mem_append_left _ hi
    have : i = j := by
      have gen : ∀ {l : List Itm}, (l.map (·.x)).Nodup → i ∈ l → j ∈ l → i = j := by
        intro l
        induction l with
        | nil => intro _ h; cases h
        | cons a l ih =>
          intro nd h1 h2
          simp only [List.map_cons, List.nodup_cons] at nd
          rcases List.mem_cons.mp h1 with h1 | h1
          · rcases List.mem_cons.mp h2 with h2 | h2
            · rw [h1, h2]
            · exact absurd (List.mem_map.mpr ⟨j, h2, e.trans (by rw [h1])⟩) nd.1
          · rcases List.mem_cons.mp h2 with h2 | h2
            · exact absurd (List.mem_map.mpr ⟨i, h1, e.symm.trans (by rw [h2])⟩) nd.1
            · exact ih nd.2 h1 h2
      exact gen g.nd hi' hj1
    subst this
    rw [ha] at hj2
    cases hj2
/-! ### no cell within -/
theorem under_ex (n : Nat) : ∀ e : Ex, e.toD.under n = true
  | .name _ => by simp [Ex.toD, D.under, unders]
  | .num _ => by simp [Ex.toD, D.under, unders]
  | .len _ => by simp [Ex.toD, D.under, unders]
  | .item _ e => by simp [Ex.toD, D.under, unders, under_ex n e]
  | .quo e _ => by simp [Ex.toD, D.under, unders, under_ex n e]
  | .rem e _ => by simp [Ex.toD, D.under, unders, under_ex n e]
  | .scale _ e => by simp [Ex.toD, D.under, unders, under_ex n e]
  | .plus e f => by simp [Ex.toD, D.under, unders, under_ex n e, under_ex n f]
  | .minus e f => by simp [Ex.toD, D.under, unders, under_ex n e, under_ex n f]
theorem under_cd (n : Nat) : ∀ c : Cd, c.toD.under n = true
  | .less e f => by simp [Cd.toD, D.under, unders, under_ex n e, under_ex n f]
  | .same e f => by simp [Cd.toD, D.under, unders, under_ex n e, under_ex n f]
  | .not c => by simp [Cd.toD, D.under, unders, under_cd n c]
  | .and c d => by simp [Cd.toD, D.under, unders, under_cd n c, under_cd n d]
  | .or c d => by simp [Cd.toD, D.under, unders, under_cd n c, under_cd n d]
theorem under_ags (n : Nat) : ∀ as : List Ag, unders n (as.map Ag.toD) = true
  | [] => rfl
  | .arr x :: as => by simp [unders, Ag.toD, D.under, under_ags n as]
  | .ex e :: as => by simp [unders, Ag.toD, under_ex n e, under_ags n as]
mutual
theorem under_st (n : Nat) : ∀ s : St, s.toD.under n = true
  | .set x e => by simp [St.toD, D.under, unders, under_ex n e]
  | .store a i e => by simp [St.toD, D.under, unders, under_ex n i, under_ex n e]
  | .push e a => by simp [St.toD, D.under, unders, under_ex n e]
  | .pop x a => by simp [St.toD, D.under, unders]
  | .pause => by simp [St.toD, D.under, unders]
  | .call f as ts => by simp [St.toD, D.under, unders, under_ags n as, sD, under_strs]
  | .whl c b => by simp [St.toD, D.under, unders, under_cd n c, under_sts n b]
  | .ite c b d => by simp [St.toD, D.under, unders, under_cd n c, under_sts n b, under_sts n d]
  | .give e => by simp [St.toD, D.under, unders, under_ex n e]
theorem under_sts (n : Nat) : ∀ b : List St, unders n (stsD b) = true
  | [] => rfl
  | s :: b => by simp [stsD, unders, under_st n s, under_sts n b]
end
theorem under_itms (n : Nat) : ∀ l : List Itm, unders n (l.map Itm.toD) = true
  | [] => rfl
  | i :: l => by simp [unders, Itm.toD, D.under, under_itms n l]
theorem under_proc (n : Nat) {p : Proc} (h : p.hints = []) : p.toD.under n = true := by
  have := under_sts n p.body
  rw [stsD_map] at this
  simp [Proc.toD, D.under, unders, h, sD, under_strs, under_itms, this]
theorem under_core (n : Nat) : ∀ {c : List Proc}, (∀ p ∈ c, p.hints = []) → (coreD c).under n = true := fun {c} h => by
  have gen : ∀ l : List Proc, (∀ p ∈ l, p.hints = []) → unders n (l.map Proc.toD) = true := by
    intro l
    induction l with
    | nil => intro _; rfl
    | cons p l ih =>
      intro h
      simp only [List.map_cons, unders, under_proc n (h p List.mem_cons_self), ih fun q hq => h q (List.mem_cons_of_mem _ hq)]
      rfl
  simp only [coreD, D.under]
  exact gen c h
/-! ### a core -/
theorem wild_core (k : Nat) (st : DS) : ∃ (hs : List Hd) (c : List Proc) (st' : DS), al2 hs hs c ∧ (∀ h ∈ hs, GHd h) ∧ 1 ≤ hs.length ∧ hs.length ≤ 2 ∧ (hs.map (·.name)).Nodup ∧
    Phi tb (k + 12) 44 [.ref 0] [st.cell] = .ok false (coreD c) [st'.cell] := by
  obtain ⟨v, st1, hv, e1⟩ := drawI (k + 10) st [] 2 (by decide) (by decide)
  obtain ⟨ws, st2, hw, e2⟩ := words (k + 9) st1 [] (1 + v) (by omega)
  obtain ⟨hs, st3, h1, h2, h3⟩ := heads_comp (k + 8) (sortL ws) [] st2 [] (fun x hx => Nat.le_trans (hw.short x ((sortLp ws).mem_iff.mp hx)) (by decide)) (by rw [(sortLp ws).length_eq, hw.len]; simp; omega)
  have hlen : hs.length = 1 + v := by
    have := congrArg List.length h1
    rw [List.length_map, (sortLp ws).length_eq, hw.len] at this
    exact this
  have nd : (hs.map (·.name)).Nodup := by rw [h1]; exact (sortLp ws).nodup_iff.mpr hw.nd
  obtain ⟨c, k4, k5, k6, k7, st4, R', a1, a2⟩ := core_loop k (hs := hs) (by omega) (by omega) h2 hs [] .no .no .no .no st3 [] h2 (by simp; omega)
  refine ⟨hs, c, st4, a1, h2, by omega, by omega, nd, ?_⟩
  have hint : ∀ p ∈ c, p.hints = [] := fun p hp => by
    obtain ⟨h, _, body, rfl, _⟩ := al2_mem a1 hp
    rfl
  have hh : ev (prog tb (k + 11)) f44_c1 ⟨[.sh (.ref 0), .no, .no, .no, .no, .no, .no, .no], [st.cell]⟩ = .ok (true, .lst (hs.map headD)) ⟨[.sh (.ref 0), .no, .no, .no, .no, .no, .no, .no], [st3.cell]⟩ := by
    unfold f44_c1
    refine (ev_comp (s1 := ⟨[.sh (.ref 0), .no, .no, .no, .no, .no, .no, .no], [st2.cell]⟩) (s5 := ⟨[.sh (.ref 0), .no, .no, .no, .no, .no, .no, .no], [st3.cell]⟩) (ds := (sortL ws).map .str) (r := hs.map headD) ?_ (by simp [isSh]) (by simpa [wipeZ] using h3)).trans (by simp [backZ])
    have hw64 : ws.length < 64 := by rw [hw.len]; omega
    have e2 : Phi tb (k + 11) 27 [.ref 0, .int (1 + (v : Int))] [st1.cell] = .ok true (.lst (ws.map .str)) [st2.cell] := by
      have : ((1 + v : Nat) : Int) = 1 + (v : Int) := by omega
      rw [← this]; exact e2
    generalize (v : Int) = w at e1 e2
    simp! [e1, e2, sortedD, strsOf_map, hw64]
  rw [phi_succ (fn := f44) rfl rfl (by decide)]
  show fin 1 (execs (prog tb (k + 11)) f44.body ⟨[.sh (.ref 0), .no, .no, .no, .no, .no, .no, .no], [st.cell]⟩) = _
  unfold f44
  refine fin_seq (s1 := ⟨[.sh (.ref 0), .own (.L (hs.map headD)), .no, .no, .no, .no, .no, .no], [st3.cell]⟩) ((exec_set hh).trans (by simp [bindTo, toCell])) ?_
  refine fin_seq (s1 := ⟨[.sh (.ref 0), .own (.L (hs.map headD)), .no, .own (.L []), .no, .no, .no, .no], [st3.cell]⟩) (by simp! []) ?_
  refine fin_seq (s1 := cz hs c k4 k5 k6 k7 st4 R') (fr_go (s1 := cz hs [] .no .no .no .no st3 []) (ds := hs.map headD) (by simp! [cz]) (by simpa using a2)) ?_
  refine fin_ret (o := false) (d := coreD c) (s1 := cz hs c k4 k5 k6 k7 st4 R') (by simp! [cz, coreD]) ?_
  simp only [fin, cz]
  have := gc_back (okS_st st4) R' (ds := [coreD c]) (by simp [unders, under_core _ hint])
  simp only [List.length_singleton, List.singleton_append] at this
  rw [this]
end K62

set_option Elab.async false
set_option linter.all false
set_option maxRecDepth 100000
set_option maxHeartbeats 2000000
set_option autoImplicit false
/-! k62: forms, walked. -/
namespace K62
open Z Co
local macro_rules
  | `(tactic| simp! [$ts,*]) => `(tactic| simp [plains, deeps, D.fit, D.plain, D.deep, lim_ble, lim_blt, cut_fromI, cut_toI, ex_set, ex_setT, ex_aug, ex_put, ex_retv, rt_lit, rt_g, rt_pr, rt_sl, rt_mp, rt_mu, rt_tup, rt_lst, rt_call, rt_callv, rt_notV, rt_bopV, rt_ite, rt_cell, rt_kin, rt_kix, rt_comp, rt_dct, ex_retN, ex_ife, ex_brk, ex_cnt, ex_pass, ex_exp, ex_rais, exs_nil, exs_cons, call_eq, glob_eq, kd_eq, atI_zero, atI_1, atI_2, atI_3, atI_4, atI_5, atI_8, wipeZ, backZ, appendC, extendC, popC, insertC, rd_v, rp_v, rp_pr, rd_lit, rd_g, rd_pr, rd_sl, rd_mp, rd_mu, rd_tup, rd_lst, rd_call, rd_callv, rd_notV, rd_bopV, rd_ite, rd_cell, rd_kin, rd_kix, rd_comp, rd_dct, rd_fn, ev, evs, evo, evrs, evt, evtb, evts, evit, evb, readV, Place.get, Place.set, Arg.get, getAll, Res.bind, Res.then, RS.seq, lift, prim, prim1, prim2, binD, cmpD, ix_lst, ix_tup, ix_str, ix_dct, slD, lenP, lenD, intD, negD, bindTo, assign, assigns, fin, der_non, der_bl, der_int, der_str, der_tup, der_lst, der_dct, der_ref, der_scr, der_fn, gc, fit_str, fit_int, D.eqv, truthD, Cell.view, isList, mutC, mrecv, mprim, mprim2, mprim3, augD, toCell, Option.bind, fromF, isiP, isiD, tupleD, listD, seqOf, noX, iterD, isSh, pix0, pix1, pix2, pix3, pix5, pix8, pder, iix0, iix1, ider, sder, eix0, kind_ne, eder, aix0, aix0e, aix1, ader, cder, $ts,*])
/-- the pairs' loop -/
def fsta (d0 d1 : D) (a : List Pr) (j : Slot × Slot) : Sta := ⟨[d0, d1].map .sh ++ [.own (.M (kDs a) (vDs a)), j.1, j.2], []⟩
def fstb (d0 d1 : D) (a : List Pr) (j : Slot × Slot) (S : List Cell) : Sta := ⟨[.sh d0, .sh d1, .own (.M (kDs a) (vDs a)), j.1, j.2], S⟩
theorem strs_kDs (a : List Pr) : strsOf (kDs a) = some (keysP a) := by
  have : kDs a = (keysP a).map D.str := by simp [kDs, keysP, Function.comp_def]
  rw [this, strsOf_map]
theorem kDs_len (a : List Pr) : (kDs a).length = a.length := by simp [kDs]
theorem look_sort (a : List Pr) (x : Wd) (h : x ∈ keysP a) : ixD (.dct (kDs a) (vDs a)) (.str x) = some (false, .int (val a x)) := by
  rw [ix_dct]
  simp [keyOk, look_mem a x h]
theorem dadd_len (a : List Pr) (x : Wd) (c : Int) : (dadd a x c).length ≤ a.length + 1 := by
  by_cases h : x ∈ keysP a
  · have := congrArg List.length (keys_dadd a x c h)
    simp only [keysP, List.length_map] at this
    omega
  · rw [dadd_new a x c h]; simp
theorem all_tx {U : List Wd} (u : UOk U) {a : List Pr} (h : ∀ x ∈ keysP a, x ∈ U) : (keysP a).all txtB = true := List.all_eq_true.mpr fun x hx => u.tx x (h x hx)

theorem form_turn (k : Nat) (d0 d1 : D) (S : List Cell) (p : Pr) (a : List Pr) (j : Slot × Slot) (nd : (keysP a).Nodup) (hl : a.length < LIM) : ∃ j', isSh j'.1 = true ∧ fbody (prog tb k) (.tup [.v 3, .v 4]) f0_b1 (prD p) (fstb d0 d1 a j S) = .next (fstb d0 d1 (dadd a p.1 p.2) j' S) := by
  refine ⟨(.sh (.str p.1), .sh (.int p.2)), rfl, ?_⟩
  have h1 := look_val a p.1
  have h2 := put_dadd a p.1 p.2 nd
  have h3 := kDs_len a
  simp! [fbody, f0_b1, fstb, prD, get2D, keyOk, flatD, h1, putC, h2, h3, hl]
theorem form_loop (k : Nat) {U : List Wd} (u : UOk U) (d0 d1 : D) (S : List Cell) : ∀ (ps : List Pr) (a : List Pr) (j : Slot × Slot), inU U ps → (keysP a).Nodup → (∀ x ∈ keysP a, x ∈ U) → isSh j.1 = true → ∃ j', isSh j'.1 = true ∧ forL (fbody (prog tb k) (.tup [.v 3, .v 4]) f0_b1) (ps.map prD) (fstb d0 d1 a j S) = .next (fstb d0 d1 (ps.foldl (fun a p => dadd a p.1 p.2) a) j' S)
  | [], a, j, _, _, _, hj => ⟨j, hj, rfl⟩
  | p :: ps, a, j, h, nd, hu, _ => by
    have hl : a.length < LIM := by
      have := nodup_len nd hu
      simp only [keysP, List.length_map] at this
      have := u.len
      have : LIM = 16777216 := rfl
      omega
    obtain ⟨j1, hj1, h1⟩ := form_turn k d0 d1 S p a j nd hl
    obtain ⟨j2, hj2, h2⟩ := form_loop k u d0 d1 S ps _ j1 (fun q hq => h q (List.mem_cons_of_mem _ hq)) (nd_dadd a p.1 p.2 nd) (fun x hx => (mem_dadd a p.1 p.2 hx).elim (hu x) fun e => e ▸ h p List.mem_cons_self) hj1
    refine ⟨j2, hj2, ?_⟩
    simp only [List.map_cons, forL, h1, List.foldl_cons]
    exact h2
theorem form_ok (k : Nat) {U : List Wd} (u : UOk U) (c : Int) (d1 : D) (ps : List Pr) (hd : d1 = .tup (ps.map prD) ∨ d1 = .lst (ps.map prD)) (h : inU U ps) (S : List Cell) : Phi tb (k + 1) 0 [.int c, d1] S = .ok false (fmD (c, nrm ps)) S := by
  rw [phi_succ (fn := f0) rfl rfl (by decide)]
  show fin S.length (execs (prog tb k) f0.body ⟨[.sh (.int c), .sh d1, .no, .no, .no], S⟩) = _
  obtain ⟨j, hj, hloop⟩ := form_loop k u (.int c) d1 S ps [] (.no, .no) h List.nodup_nil (by simp [keysP]) rfl
  obtain ⟨hnd, hin⟩ := acc_ok h
  have hlen := acc_len u h
  have htx := all_tx u hin
  have hf : ∀ x ∈ sortL (keysP (acc ps)), x ∈ keysP (acc ps) := fun x hx => (sortL_perm _).mem_iff.mp hx
  have hkl : (keysP (acc ps)).length = (acc ps).length := by simp [keysP]
  have hsl : (sortL (keysP (acc ps))).length ≤ LIM := by
    rw [(sortL_perm (keysP (acc ps))).length_eq, hkl]
    have : LIM = 16777216 := rfl
    omega
  unfold f0
  refine fin_seq (s1 := fstb (.int c) d1 [] (.no, .no) S) (by simp! [fstb, kDs, vDs, keysOk, mkDict]) ?_
  refine fin_seq (s1 := fstb (.int c) d1 (acc ps) j S) (fr_go (s1 := fstb (.int c) d1 [] (.no, .no) S) (ds := ps.map prD) (by rcases hd with rfl | rfl <;> simp! [fstb]) hloop) ?_
  have hc : ev (prog tb k) f0_c2 (fstb (.int c) d1 (acc ps) j S) = .ok (true, .lst ((nrm ps).map prD)) (fstb (.int c) d1 (acc ps) j S) := by
    unfold f0_c2
    have hz := ev_compT (P := prog tb k) (tg := .v 3) (vs := [3]) (it := .seq (.pr .sortedOf [(.v 2)])) (ifs := [(.cmp .NotEq (.pr .ix [(.v 2), (.v 3)]) (.lit (.int 0)))]) (e := .tup [(.v 3), (.pr .ix [(.v 2), (.v 3)])]) (σ := [.sh (.int c), .sh d1, .own (.M (kDs (acc ps)) (vDs (acc ps))), j.1, j.2]) (σ1 := [.sh (.int c), .sh d1, .own (.M (kDs (acc ps)) (vDs (acc ps))), j.1, j.2]) (S1 := S) (S := S) (sortL (keysP (acc ps))) D.str (fun x => if decide (val (acc ps) x ≠ 0) = true then some (prD (x, val (acc ps) x)) else none) (by simp! [fstb, sortedD, strs_kDs, htx, hkl, hlen]) (by simpa using hj) rfl (fun x hx => ?_) hsl rfl
    · refine hz.trans ?_
      rw [filterMap_if]
      simp [nrm, Function.comp_def, fstb, backZ, wipeZ]
    · have e1 := look_sort (acc ps) x (hf x hx)
      by_cases hv : val (acc ps) x = 0
      · simp! [cturn, e1, hv, prD]
      · simp! [cturn, e1, hv, prD]
  have hnl : (nrm ps).length ≤ LIM := by
    unfold nrm
    rw [List.length_map]
    exact Nat.le_trans (List.length_filter_le _ _) hsl
  refine fin_ret (o := false) (d := fmD (c, nrm ps)) (s1 := fstb (.int c) d1 (acc ps) j S) ?_ ?_
  · have hc2 := hc
    unfold fstb at hc2
    simp! [fstb, f0_c2r, hc2, fmD, hnl]
  · simp! [fstb]

theorem law_form_turn (k : Nat) (d0 d1 : D) (S : List Cell) (p : Pr) (a : List Pr) (j : Slot × Slot) (nd : (keysP a).Nodup) (hl : a.length < LIM) : ∃ j', isSh j'.1 = true ∧ fbody (prog tb k) (.tup [.v 3, .v 4]) f30_b1 (prD p) (fstb d0 d1 a j S) = .next (fstb d0 d1 (dadd a p.1 p.2) j' S) := by
  refine ⟨(.sh (.str p.1), .sh (.int p.2)), rfl, ?_⟩
  have h1 := look_val a p.1
  have h2 := put_dadd a p.1 p.2 nd
  have h3 := kDs_len a
  simp! [fbody, f30_b1, fstb, prD, get2D, keyOk, flatD, h1, putC, h2, h3, hl]
theorem law_form_loop (k : Nat) {U : List Wd} (u : UOk U) (d0 d1 : D) (S : List Cell) : ∀ (ps : List Pr) (a : List Pr) (j : Slot × Slot), inU U ps → (keysP a).Nodup → (∀ x ∈ keysP a, x ∈ U) → isSh j.1 = true → ∃ j', isSh j'.1 = true ∧ forL (fbody (prog tb k) (.tup [.v 3, .v 4]) f30_b1) (ps.map prD) (fstb d0 d1 a j S) = .next (fstb d0 d1 (ps.foldl (fun a p => dadd a p.1 p.2) a) j' S)
  | [], a, j, _, _, _, hj => ⟨j, hj, rfl⟩
  | p :: ps, a, j, h, nd, hu, _ => by
    have hl : a.length < LIM := by
      have := nodup_len nd hu
      simp only [keysP, List.length_map] at this
      have := u.len
      have : LIM = 16777216 := rfl
      omega
    obtain ⟨j1, hj1, h1⟩ := law_form_turn k d0 d1 S p a j nd hl
    obtain ⟨j2, hj2, h2⟩ := law_form_loop k u d0 d1 S ps _ j1 (fun q hq => h q (List.mem_cons_of_mem _ hq)) (nd_dadd a p.1 p.2 nd) (fun x hx => (mem_dadd a p.1 p.2 hx).elim (hu x) fun e => e ▸ h p List.mem_cons_self) hj1
    refine ⟨j2, hj2, ?_⟩
    simp only [List.map_cons, forL, h1, List.foldl_cons]
    exact h2
theorem law_form_ok (k : Nat) {U : List Wd} (u : UOk U) (c : Int) (d1 : D) (ps : List Pr) (hd : d1 = .tup (ps.map prD) ∨ d1 = .lst (ps.map prD)) (h : inU U ps) (S : List Cell) : Phi tb (k + 1) 30 [.int c, d1] S = .ok false (fmD (c, nrm ps)) S := by
  rw [phi_succ (fn := f30) rfl rfl (by decide)]
  show fin S.length (execs (prog tb k) f30.body ⟨[.sh (.int c), .sh d1, .no, .no, .no], S⟩) = _
  obtain ⟨j, hj, hloop⟩ := law_form_loop k u (.int c) d1 S ps [] (.no, .no) h List.nodup_nil (by simp [keysP]) rfl
  obtain ⟨hnd, hin⟩ := acc_ok h
  have hlen := acc_len u h
  have htx := all_tx u hin
  have hf : ∀ x ∈ sortL (keysP (acc ps)), x ∈ keysP (acc ps) := fun x hx => (sortL_perm _).mem_iff.mp hx
  have hkl : (keysP (acc ps)).length = (acc ps).length := by simp [keysP]
  have hsl : (sortL (keysP (acc ps))).length ≤ LIM := by
    rw [(sortL_perm (keysP (acc ps))).length_eq, hkl]
    have : LIM = 16777216 := rfl
    omega
  unfold f30
  refine fin_seq (s1 := fstb (.int c) d1 [] (.no, .no) S) (by simp! [fstb, kDs, vDs, keysOk, mkDict]) ?_
  refine fin_seq (s1 := fstb (.int c) d1 (acc ps) j S) (fr_go (s1 := fstb (.int c) d1 [] (.no, .no) S) (ds := ps.map prD) (by rcases hd with rfl | rfl <;> simp! [fstb]) hloop) ?_
  have hc : ev (prog tb k) f30_c2 (fstb (.int c) d1 (acc ps) j S) = .ok (true, .lst ((nrm ps).map prD)) (fstb (.int c) d1 (acc ps) j S) := by
    unfold f30_c2
    have hz := ev_compT (P := prog tb k) (tg := .v 3) (vs := [3]) (it := .seq (.pr .sortedOf [(.v 2)])) (ifs := [(.cmp .NotEq (.pr .ix [(.v 2), (.v 3)]) (.lit (.int 0)))]) (e := .tup [(.v 3), (.pr .ix [(.v 2), (.v 3)])]) (σ := [.sh (.int c), .sh d1, .own (.M (kDs (acc ps)) (vDs (acc ps))), j.1, j.2]) (σ1 := [.sh (.int c), .sh d1, .own (.M (kDs (acc ps)) (vDs (acc ps))), j.1, j.2]) (S1 := S) (S := S) (sortL (keysP (acc ps))) D.str (fun x => if decide (val (acc ps) x ≠ 0) = true then some (prD (x, val (acc ps) x)) else none) (by simp! [fstb, sortedD, strs_kDs, htx, hkl, hlen]) (by simpa using hj) rfl (fun x hx => ?_) hsl rfl
    · refine hz.trans ?_
      rw [filterMap_if]
      simp [nrm, Function.comp_def, fstb, backZ, wipeZ]
    · have e1 := look_sort (acc ps) x (hf x hx)
      by_cases hv : val (acc ps) x = 0
      · simp! [cturn, e1, hv, prD]
      · simp! [cturn, e1, hv, prD]
  have hnl : (nrm ps).length ≤ LIM := by
    unfold nrm
    rw [List.length_map]
    exact Nat.le_trans (List.length_filter_le _ _) hsl
  refine fin_ret (o := false) (d := fmD (c, nrm ps)) (s1 := fstb (.int c) d1 (acc ps) j S) ?_ ?_
  · have hc2 := hc
    unfold fstb at hc2
    simp! [fstb, f30_c2r, hc2, fmD, hnl]
  · simp! [fstb]

theorem wf_len {U : List Wd} (u : UOk U) {f : Fm} (w : Wf U f) : f.2.length ≤ 63 := by
  have := nodup_len (wf_nd w) fun x hx => by
    obtain ⟨p, hp, rfl⟩ := List.mem_map.mp hx
    exact w.u p hp
  simp only [List.length_map] at this
  have := u.len
  omega
theorem wf_lim {U : List Wd} (u : UOk U) {f : Fm} (w : Wf U f) : f.2.length ≤ LIM := Nat.le_trans (wf_len u w) (by decide)
theorem mul_l {i j : Int} (h : i.natAbs < 18446744073709551616) : mulOk i j = true := by simp [mulOk, h]
theorem glob_tb : tb.glob 0 = some (.tup [.int 0, .tup []]) := rfl
theorem glob_tb1 : tb.glob 1 = some (.tup [.int (-1), .tup []]) := rfl

theorem times_ok (k : Nat) {U : List Wd} (u : UOk U) (i : Int) (hi : i.natAbs < 18446744073709551616) {f : Fm} (w : Wf U f) (S : List Cell) : Phi tb (k + 1) 3 [.int i, fmD f] S = .ok false (fmD (ftimes i f)) S := by
  have hl : f.2.length ≤ LIM := wf_lim u w
  have hm : ∀ j, mulOk i j = true := fun j => mul_l hi
  rw [phi_succ (fn := f3) rfl rfl (by decide)]
  show fin S.length (execs (prog tb k) f3.body ⟨[.sh (.int i), .sh (fmD f), .no, .no], S⟩) = _
  unfold f3
  by_cases h0 : i = 0
  · subst h0
    refine fin_ret (o := false) (d := .tup [.int 0, .tup []]) (s1 := ⟨[.sh (.int 0), .sh (fmD f), .no, .no], S⟩) ?_ ?_
    · simp! [exec, execs, glob_tb]
    · simp! [ftimes, fmD]
  · refine fin_seq (s1 := ⟨[.sh (.int i), .sh (fmD f), .no, .no], S⟩) (by simp! [h0]) ?_
    have hc : ev (prog tb k) f3_c1 ⟨[.sh (.int i), .sh (fmD f), .no, .no], S⟩ = .ok (true, .lst ((sc i f.2).map prD)) ⟨[.sh (.int i), .sh (fmD f), .no, .no], S⟩ := by
      unfold f3_c1
      refine (ev_compM (σ1 := [.sh (.int i), .sh (fmD f), .no, .no]) (S1 := S) f.2 prD (fun p => prD (p.1, i * p.2)) rfl (by simp! [fder, fix1]) hl fun p hp => ?_).trans ?_
      · simp! [cturn, prD, hm]
      · simp [sc, Function.comp_def]
    have hsl : (sc i f.2).length ≤ LIM := by simpa [sc] using hl
    refine fin_ret (o := false) (d := fmD (ftimes i f)) (s1 := ⟨[.sh (.int i), .sh (fmD f), .no, .no], S⟩) ?_ ?_
    · simp! [fder, fix0, f3_c1r, hc, hsl, hm, ftimes, h0]
      simp [fmD]
    · simp! []
theorem variable_ok (k : Nat) (x : Wd) (S : List Cell) : Phi tb (k + 1) 1 [.str x] S = .ok false (fmD (fvar x)) S := by
  rw [phi_succ (fn := f1) rfl rfl (by decide)]
  simp! [f1, fmD, fvar, prD]
theorem law_var_ok (k : Nat) (x : Wd) (S : List Cell) : Phi tb (k + 1) 32 [.str x] S = .ok false (fmD (fvar x)) S := by
  rw [phi_succ (fn := f32) rfl rfl (by decide)]
  simp! [f32, fmD, fvar, prD]
theorem plus_ok (k : Nat) {U : List Wd} (u : UOk U) {f g : Fm} (wf : Wf U f) (wg : Wf U g) (S : List Cell) : Phi tb (k + 2) 2 [fmD f, fmD g] S = .ok false (fmD (fplus f g)) S := by
  have hl : f.2.length + g.2.length ≤ LIM := by
    have h1 := wf_len u wf
    have h2 := wf_len u wg
    have : LIM = 16777216 := rfl
    omega
  have e := form_ok k u (f.1 + g.1) (.tup ((f.2 ++ g.2).map prD)) (f.2 ++ g.2) (.inl rfl) (app_in wf.u wg.u) S
  rw [phi_succ (fn := f2) rfl rfl (by decide)]
  show fin S.length (execs (prog tb (k + 1)) f2.body ⟨[.sh (fmD f), .sh (fmD g)], S⟩) = _
  unfold f2
  by_cases h0 : g.2 = []
  · refine fin_ret (o := false) (d := fmD (f.1 + g.1, f.2)) (s1 := ⟨[.sh (fmD f), .sh (fmD g)], S⟩) ?_ ?_
    · simp! [fder, fix0, fix1, h0, fder]
      simp [fmD]
    · simp! [fplus, h0]
  · refine fin_seq (s1 := ⟨[.sh (fmD f), .sh (fmD g)], S⟩) (by simp! [fder, fix1, h0]) ?_
    rw [List.map_append] at e
    refine fin_ret (o := false) (d := fmD (fplus f g)) (s1 := ⟨[.sh (fmD f), .sh (fmD g)], S⟩) ?_ ?_
    · simp! [fder, fix0, fix1, hl, e, fplus, h0]
    · simp! []
theorem minus_ok (k : Nat) {U : List Wd} (u : UOk U) {f g : Fm} (wf : Wf U f) (wg : Wf U g) (S : List Cell) : Phi tb (k + 3) 4 [fmD f, fmD g] S = .ok false (fmD (fminus f g)) S := by
  have e1 := times_ok (k + 1) u (-1) (by decide) wg S
  have e2 := plus_ok k u wf (ftimes_wf (-1) wg) S
  rw [phi_succ (fn := f4) rfl rfl (by decide)]
  simp! [f4, e1, e2, fminus]
end K62

set_option Elab.async false
set_option linter.all false
set_option maxRecDepth 100000
set_option maxHeartbeats 2000000
set_option autoImplicit false
/-! k62: sums of forms, and expressions' forms. -/
namespace K62
open Z Co
local macro_rules
  | `(tactic| simp! [$ts,*]) => `(tactic| simp [plains, deeps, D.fit, D.plain, D.deep, lim_ble, lim_blt, cut_fromI, cut_toI, ex_set, ex_setT, ex_aug, ex_put, ex_retv, rt_lit, rt_g, rt_pr, rt_sl, rt_mp, rt_mu, rt_tup, rt_lst, rt_call, rt_callv, rt_notV, rt_bopV, rt_ite, rt_cell, rt_kin, rt_kix, rt_comp, rt_dct, ex_retN, ex_ife, ex_brk, ex_cnt, ex_pass, ex_exp, ex_rais, exs_nil, exs_cons, call_eq, glob_eq, kd_eq, atI_zero, atI_1, atI_2, atI_3, atI_4, atI_5, atI_8, wipeZ, backZ, appendC, extendC, popC, insertC, rd_v, rp_v, rp_pr, rd_lit, rd_g, rd_pr, rd_sl, rd_mp, rd_mu, rd_tup, rd_lst, rd_call, rd_callv, rd_notV, rd_bopV, rd_ite, rd_cell, rd_kin, rd_kix, rd_comp, rd_dct, rd_fn, ev, evs, evo, evrs, evt, evtb, evts, evit, evb, readV, Place.get, Place.set, Arg.get, getAll, Res.bind, Res.then, RS.seq, lift, prim, prim1, prim2, binD, cmpD, ix_lst, ix_tup, ix_str, ix_dct, slD, lenP, lenD, intD, negD, bindTo, assign, assigns, fin, der_non, der_bl, der_int, der_str, der_tup, der_lst, der_dct, der_ref, der_scr, der_fn, gc, fit_str, fit_int, D.eqv, truthD, Cell.view, isList, mutC, mrecv, mprim, mprim2, mprim3, augD, toCell, Option.bind, fromF, isiP, isiD, tupleD, listD, seqOf, noX, iterD, isSh, pix0, pix1, pix2, pix3, pix5, pix8, pder, iix0, iix1, ider, sder, eix0, kind_ne, eder, aix0, aix0e, aix1, ader, cder, $ts,*])
def smD (z : Int × Fm) : D := .tup [.int z.1, fmD z.2]
def smS (d : D) (c : Int) (acc : List Pr) (j : Slot × Slot × Slot × Slot) (S : List Cell) : Sta := ⟨[.sh d, .sh (.int c), .own (.L (acc.map prD)), j.1, j.2.1, j.2.2.1, j.2.2.2], S⟩
theorem sc_flat (i : Int) (ps : List Pr) : (ps.flatMap fun p => [(p.1, i * p.2)]) = sc i ps := by
  induction ps with
  | nil => rfl
  | cons p ps ih => simp only [List.flatMap_cons, ih]; rfl
theorem smder (S : List Cell) (z : Int × Fm) : derefS S (smD z) = some (smD z) := rfl
theorem sum_in (k : Nat) (d : D) (c i : Int) (hi : i.natAbs < 18446744073709551616) (f : D) (S : List Cell) (ps acc : List Pr) (j5 j6 : Slot) (hl : acc.length + ps.length ≤ LIM) :
    ∃ j' : Slot × Slot, forL (fbody (prog tb k) (.tup [.v 5, .v 6]) f31_b1) (ps.map prD) (smS d c acc (.sh (.int i), .sh f, j5, j6) S) = .next (smS d c (acc ++ sc i ps) (.sh (.int i), .sh f, j'.1, j'.2) S) := by
  have hm : ∀ j, mulOk i j = true := fun j => mul_l hi
  rw [← sc_flat]
  refine forL_appJ (st := fun (j : Slot × Slot) acc => smS d c acc (.sh (.int i), .sh f, j.1, j.2) S) LIM ps acc (j5, j6) (by rw [sc_flat]; simpa [sc] using hl) fun j acc p hp h => ⟨(.sh (.str p.1), .sh (.int p.2)), ?_⟩
  have h2 : acc.length < LIM := by simp only [List.length_cons, List.length_nil] at h; omega
  have h3 : acc.length + 1 ≤ LIM := h2
  simp! [fbody, f31_b1, smS, prD, hm, h2]
theorem sum_loop (k : Nat) (d : D) (S : List Cell) : ∀ (l : List (Int × Fm)) (c : Int) (acc : List Pr) (j : Slot × Slot × Slot × Slot), (∀ z ∈ l, z.1.natAbs < 18446744073709551616) → acc.length + (lpairs l).length ≤ LIM →
    ∃ j', forL (fbody (prog tb k) (.tup [.v 3, .v 4]) f31_b2) (l.map smD) (smS d c acc j S) = .next (smS d (l.foldl (fun a z => a + z.1 * z.2.1) c) (acc ++ lpairs l) j' S)
  | [], c, acc, j, _, _ => ⟨j, by simp [forL, lpairs]⟩
  | z :: l, c, acc, j, hb, hl => by
    have hz := hb z List.mem_cons_self
    have hm : ∀ j, mulOk z.1 j = true := fun j => mul_l hz
    have hs : (sc z.1 z.2.2).length = z.2.2.length := by simp [sc]
    have hll : (lpairs (z :: l)).length = z.2.2.length + (lpairs l).length := by simp [lpairs, hs]
    obtain ⟨j1, h1⟩ := sum_in k d (c + z.1 * z.2.1) z.1 hz (fmD z.2) S z.2.2 acc j.2.2.1 j.2.2.2 (by omega)
    obtain ⟨j2, h2⟩ := sum_loop k d S l (c + z.1 * z.2.1) (acc ++ sc z.1 z.2.2) (.sh (.int z.1), .sh (fmD z.2), j1.1, j1.2) (fun y hy => hb y (List.mem_cons_of_mem _ hy)) (by rw [List.length_append, hs]; omega)
    refine ⟨j2, ?_⟩
    have hb : fbody (prog tb k) (.tup [.v 3, .v 4]) f31_b2 (smD z) (smS d c acc j S) = .next (smS d (c + z.1 * z.2.1) (acc ++ sc z.1 z.2.2) (.sh (.int z.1), .sh (fmD z.2), j1.1, j1.2) S) := by
      have h0 : execs (prog tb k) f31_b2 (smS d c acc (.sh (.int z.1), .sh (fmD z.2), j.2.2.1, j.2.2.2) S) = .next (smS d (c + z.1 * z.2.1) (acc ++ sc z.1 z.2.2) (.sh (.int z.1), .sh (fmD z.2), j1.1, j1.2) S) := by
        unfold f31_b2
        refine seq_go (s1 := smS d (c + z.1 * z.2.1) acc (.sh (.int z.1), .sh (fmD z.2), j.2.2.1, j.2.2.2) S) (by simp! [smS, fder, fix0, hm]) ?_
        exact seq_end (fr_go (s1 := smS d (c + z.1 * z.2.1) acc (.sh (.int z.1), .sh (fmD z.2), j.2.2.1, j.2.2.2) S) (ds := z.2.2.map prD) (by simp! [smS, fder, fix1]) h1)
      rw [← h0]
      simp [fbody, assign, assigns, smD, smS]
    simp only [List.map_cons, forL, hb, List.foldl_cons]
    rw [h2]
    simp [lpairs]
theorem law_sum_ok (k : Nat) {U : List Wd} (u : UOk U) (l : List (Int × Fm)) (hb : ∀ z ∈ l, z.1.natAbs < 18446744073709551616) (h : inU U (lpairs l)) (hl : (lpairs l).length ≤ LIM) (S : List Cell) : Phi tb (k + 2) 31 [.lst (l.map smD)] S = .ok false (fmD (lsum l)) S := by
  obtain ⟨j, hloop⟩ := sum_loop (k + 1) (.lst (l.map smD)) S l 0 [] (.no, .no, .no, .no) hb (by simpa using hl)
  have e := law_form_ok k u (lconst l) (.lst ((lpairs l).map prD)) (lpairs l) (.inr rfl) h S
  rw [phi_succ (fn := f31) rfl rfl (by decide)]
  show fin S.length (execs (prog tb (k + 1)) f31.body ⟨[.sh (.lst (l.map smD)), .no, .no, .no, .no, .no, .no], S⟩) = _
  unfold f31
  refine fin_seq (s1 := ⟨[.sh (.lst (l.map smD)), .sh (.int 0), .no, .no, .no, .no, .no], S⟩) (by simp! []) ?_
  refine fin_seq (s1 := smS (.lst (l.map smD)) 0 [] (.no, .no, .no, .no) S) (by simp! [smS]) ?_
  refine fin_seq (s1 := smS (.lst (l.map smD)) (lconst l) (lpairs l) j S) (fr_go (s1 := smS (.lst (l.map smD)) 0 [] (.no, .no, .no, .no) S) (ds := l.map smD) (by simp! [smS]) hloop) ?_
  refine fin_ret (o := false) (d := fmD (lsum l)) (s1 := ⟨[.sh (.lst (l.map smD)), .sh (.int (lconst l)), .sh (.lst ((lpairs l).map prD)), j.1, j.2.1, j.2.2.1, j.2.2.2], S⟩) ?_ ?_
  · simp! [smS, e, lsum]
  · simp! [smS]
theorem law_sum1 (k : Nat) {U : List Wd} (u : UOk U) {i : Int} (hi : i.natAbs < 18446744073709551616) (h0 : i ≠ 0) {f : Fm} (w : Wf U f) (S : List Cell) : Phi tb (k + 2) 31 [.lst [.tup [.int i, fmD f]]] S = .ok false (fmD (ftimes i f)) S := by
  have e := law_sum_ok k u [(i, f)] (by simpa using hi) (by simpa [lpairs] using sc_in w.u) (by simpa [lpairs, sc] using wf_lim u w) S
  rw [lsum_one h0 w] at e
  exact e
theorem law_sum2 (k : Nat) {U : List Wd} (u : UOk U) {i : Int} (hi : i.natAbs < 18446744073709551616) (h0 : i ≠ 0) {f g : Fm} (w : Wf U f) (wg : Wf U g) (S : List Cell) : Phi tb (k + 2) 31 [.lst [.tup [.int 1, fmD f], .tup [.int i, fmD g]]] S = .ok false (fmD (fplus f (ftimes i g))) S := by
  have e := law_sum_ok k u [(1, f), (i, g)] (by simpa using hi) (by simpa [lpairs] using app_in (sc_in w.u) (sc_in wg.u)) (by
    have h1 := wf_len u w
    have h2 := wf_len u wg
    have : LIM = 16777216 := rfl
    simp [lpairs, sc]
    omega) S
  rw [lsum_two h0 w wg] at e
  exact e
theorem both_ways (k : Nat) {U : List Wd} (u : UOk U) {f g : Fm} (w : Wf U f) (wg : Wf U g) (S : List Cell) : Phi tb (k + 3) 47 [fmD f, fmD g] S = .ok true (.lst ([fminus f g, fminus g f].map fmD)) S := by
  have e1 := law_sum2 k u (i := -1) (by decide) (by decide) w wg S
  have e2 := law_sum2 k u (i := -1) (by decide) (by decide) wg w S
  rw [phi_succ (fn := f47) rfl rfl (by decide)]
  simp! [f47, e1, e2, fminus, fder]
theorem differences_of (k : Nat) {U : List Wd} (u : UOk U) {f g : Fm} (w : Wf U f) (wg : Wf U g) (S : List Cell) : Phi tb (k + 4) 22 [fmD f, fmD g] S = .ok true (.lst ([fminus f g, fminus g f].map fmD)) S := by
  have e1 := minus_ok k u w wg S
  have e2 := minus_ok k u wg w S
  rw [phi_succ (fn := f22) rfl rfl (by decide)]
  simp! [f22, e1, e2, fder]
/-! ### an expression's form -/
def skey (s : List Wd) (n : Wd) : Wd := if n ∈ s then n else 64 :: n
def pf (s : List Wd) : Ex → Option Fm
  | .num n => some (n, [])
  | .name x => some (fvar (skey s x))
  | .len a => some (fvar (skey s (35 :: a)))
  | .scale c e => match pf s e with
    | some f => some (ftimes c f)
    | none => none
  | .plus e f => match pf s e, pf s f with
    | some a, some b => some (fplus a b)
    | _, _ => none
  | .minus e f => match pf s e, pf s f with
    | some a, some b => some (fminus a b)
    | _, _ => none
  | _ => none
def oD : Option Fm → D
  | some f => fmD f
  | none => .non
structure Ctx (U is as : List Wd) : Prop where
  u : UOk U
  i1 : ∀ x ∈ is, x.length ≤ 99 ∧ x ∈ U ∧ (64 :: x) ∈ U
  a1 : ∀ x ∈ as, x.length ≤ 99 ∧ (35 :: x) ∈ U ∧ (64 :: 35 :: x) ∈ U
theorem pf_wf {U is as : List Wd} (C : Ctx U is as) (s : List Wd) : ∀ (e : Ex) {f : Fm}, inE is as e → pf s e = some f → Wf U f
  | .num n, f, _, h => by
    simp only [pf, Option.some.injEq] at h
    subst h
    exact const_wf n
  | .name x, f, hi, h => by
    simp only [pf, Option.some.injEq] at h
    subst h
    refine fvar_wf ?_
    unfold skey
    split
    · exact (C.i1 x hi).2.1
    · exact (C.i1 x hi).2.2
  | .len x, f, hi, h => by
    simp only [pf, Option.some.injEq] at h
    subst h
    refine fvar_wf ?_
    unfold skey
    split
    · exact (C.a1 x hi).2.1
    · exact (C.a1 x hi).2.2
  | .scale c e, f, hi, h => by
    simp only [pf] at h
    cases hp : pf s e with
    | none => rw [hp] at h; cases h
    | some g =>
      rw [hp] at h
      cases h
      exact ftimes_wf c (pf_wf C s e hi.2 hp)
  | .plus a b, f, hi, h => by
    simp only [pf] at h
    cases hp : pf s a with
    | none => rw [hp] at h; cases h
    | some g =>
      cases hq : pf s b with
      | none => rw [hp, hq] at h; cases h
      | some g2 =>
        rw [hp, hq] at h
        cases h
        exact fplus_wf (pf_wf C s a hi.1 hp) (pf_wf C s b hi.2 hq)
  | .minus a b, f, hi, h => by
    simp only [pf] at h
    cases hp : pf s a with
    | none => rw [hp] at h; cases h
    | some g =>
      cases hq : pf s b with
      | none => rw [hp, hq] at h; cases h
      | some g2 =>
        rw [hp, hq] at h
        cases h
        exact fminus_wf (pf_wf C s a hi.1 hp) (pf_wf C s b hi.2 hq)
  | .item _ _, f, _, h => by cases h
  | .quo _ _, f, _, h => by cases h
  | .rem _ _, f, _, h => by cases h
end K62

set_option Elab.async false
set_option linter.all false
set_option maxRecDepth 100000
set_option maxHeartbeats 2000000
set_option autoImplicit false
/-! k62: plain forms, walked. -/
namespace K62
open Z Co
local macro_rules
  | `(tactic| simp! [$ts,*]) => `(tactic| simp [plains, deeps, D.fit, D.plain, D.deep, lim_ble, lim_blt, cut_fromI, cut_toI, ex_set, ex_setT, ex_aug, ex_put, ex_retv, rt_lit, rt_g, rt_pr, rt_sl, rt_mp, rt_mu, rt_tup, rt_lst, rt_call, rt_callv, rt_notV, rt_bopV, rt_ite, rt_cell, rt_kin, rt_kix, rt_comp, rt_dct, ex_retN, ex_ife, ex_brk, ex_cnt, ex_pass, ex_exp, ex_rais, exs_nil, exs_cons, call_eq, glob_eq, kd_eq, atI_zero, atI_1, atI_2, atI_3, atI_4, atI_5, atI_8, wipeZ, backZ, appendC, extendC, popC, insertC, rd_v, rp_v, rp_pr, rd_lit, rd_g, rd_pr, rd_sl, rd_mp, rd_mu, rd_tup, rd_lst, rd_call, rd_callv, rd_notV, rd_bopV, rd_ite, rd_cell, rd_kin, rd_kix, rd_comp, rd_dct, rd_fn, ev, evs, evo, evrs, evt, evtb, evts, evit, evb, readV, Place.get, Place.set, Arg.get, getAll, Res.bind, Res.then, RS.seq, lift, prim, prim1, prim2, binD, cmpD, ix_lst, ix_tup, ix_str, ix_dct, slD, lenP, lenD, intD, negD, bindTo, assign, assigns, fin, der_non, der_bl, der_int, der_str, der_tup, der_lst, der_dct, der_ref, der_scr, der_fn, gc, fit_str, fit_int, D.eqv, truthD, Cell.view, isList, mutC, mrecv, mprim, mprim2, mprim3, augD, toCell, Option.bind, fromF, isiP, isiD, tupleD, listD, seqOf, noX, iterD, isSh, pix0, pix1, pix2, pix3, pix5, pix8, pder, iix0, iix1, ider, sder, eix0, kind_ne, eder, aix0, aix0e, aix1, ader, cder, $ts,*])
/-- the states' list as it is handed on -/
structure Sts (sts : List Wd) (d : D) : Prop where
  der : ∀ S, derefS S d = some d
  inn : ∀ x, inD (.str x) d = some (decide (x ∈ sts))
theorem sts_T (l : List Wd) : Sts l (sD l) := ⟨fun _ => rfl, fun x => in_strsT x l⟩
theorem sts_L (l : List Wd) : Sts l (.lst (l.map .str)) := ⟨fun _ => rfl, fun x => in_strs x l⟩
theorem noneF (n : Bool) (f : Fm) : noneD n (fmD f) = some (false, .bl n) := rfl
theorem noneN (n : Bool) : noneD n .non = some (false, .bl (!n)) := rfl
theorem oder (S : List Cell) (o : Option Fm) : derefS S (oD o) = some (oD o) := by cases o <;> rfl
theorem lim_add2 {n : Nat} (h : n ≤ 99) : 1 + (n + 1) ≤ LIM := by
  have : LIM = 16777216 := rfl
  omega
theorem lim_add3 {n : Nat} (h : n ≤ 99) : n + 1 + 1 ≤ LIM := by
  have : LIM = 16777216 := rfl
  omega
theorem lim_add4 {n : Nat} (h : n ≤ 99) : n + 1 ≤ LIM := by
  have : LIM = 16777216 := rfl
  omega
theorem plain_form {U is as sts : List Wd} (C : Ctx U is as) {d : D} (hd : Sts sts d) (S : List Cell) : ∀ (n k : Nat) (e : Ex), dep e ≤ n → inE is as e → Phi tb (k + n + 4) 16 [e.toD, d] S = .ok false (oD (pf sts e)) S
  | n, k, .num z, hn, he => by
    rw [phi_succ (fn := f16) rfl rfl (by decide)]
    simp! [f16, Ex.toD, hd.der, hd.inn, pf, oD, fmD]
  | n, k, .name x, hn, he => by
    have e1 := variable_ok (k + n + 2) x S
    have e2 := variable_ok (k + n + 2) (64 :: x) S
    have b := lim_add1 (C.i1 x he).1
    rw [phi_succ (fn := f16) rfl rfl (by decide)]
    by_cases h : x ∈ sts
    · simp! [f16, Ex.toD, hd.der, hd.inn, h, b, e1, e2, pf, oD, skey]
    · simp! [f16, Ex.toD, hd.der, hd.inn, h, b, e1, e2, pf, oD, skey]
  | n, k, .len x, hn, he => by
    have e1 := variable_ok (k + n + 2) (35 :: x) S
    have e2 := variable_ok (k + n + 2) (64 :: 35 :: x) S
    have b := lim_add1 (C.a1 x he).1
    have b2 := lim_add2 (C.a1 x he).1
    rw [phi_succ (fn := f16) rfl rfl (by decide)]
    by_cases h : (35 :: x) ∈ sts
    · simp! [f16, Ex.toD, hd.der, hd.inn, h, b, b2, e1, e2, pf, oD, skey]
    · simp! [f16, Ex.toD, hd.der, hd.inn, h, b, b2, e1, e2, pf, oD, skey]
  | n, k, .item a e, hn, he => by
    rw [phi_succ (fn := f16) rfl rfl (by decide)]
    simp! [f16, Ex.toD, hd.der, hd.inn, pf, oD, eder]
  | n, k, .quo a e, hn, he => by
    rw [phi_succ (fn := f16) rfl rfl (by decide)]
    simp! [f16, Ex.toD, hd.der, hd.inn, pf, oD, eder]
  | n, k, .rem a e, hn, he => by
    rw [phi_succ (fn := f16) rfl rfl (by decide)]
    simp! [f16, Ex.toD, hd.der, hd.inn, pf, oD, eder]
  | n + 1, k, .scale c e, hn, he => by
    have e1 := plain_form C hd S n k e (by simp only [dep] at hn; omega) he.2
    rw [show k + (n + 1) + 4 = k + n + 4 + 1 from by omega, phi_succ (fn := f16) rfl rfl (by decide)]
    cases hp : pf sts e with
    | none =>
      rw [hp] at e1
      simp! [f16, Ex.toD, hd.der, hd.inn, pf, oD, eder, e1, hp, noneN]
    | some f =>
      rw [hp] at e1
      have w := pf_wf C sts e he.2 hp
      have e2 := times_ok (k + n + 3) C.u c (by rcases he.1 with h | h <;> subst h <;> decide) w S
      simp! [f16, Ex.toD, hd.der, hd.inn, pf, oD, eder, e1, e2, hp, noneF, fder]
  | n + 1, k, .plus a b, hn, he => by
    have e1 := plain_form C hd S n k a (by simp only [dep] at hn; omega) he.1
    have e2 := plain_form C hd S n k b (by simp only [dep] at hn; omega) he.2
    rw [show k + (n + 1) + 4 = k + n + 4 + 1 from by omega, phi_succ (fn := f16) rfl rfl (by decide)]
    cases hp : pf sts a with
    | none =>
      rw [hp] at e1
      simp! [f16, Ex.toD, hd.der, hd.inn, pf, oD, eder, e1, e2, hp, noneN]
    | some f =>
      rw [hp] at e1
      cases hq : pf sts b with
      | none =>
        rw [hq] at e2
        simp! [f16, Ex.toD, hd.der, hd.inn, pf, oD, eder, e1, e2, hp, hq, noneN, noneF, fder]
      | some g =>
        rw [hq] at e2
        have e3 := plus_ok (k + n + 2) C.u (pf_wf C sts a he.1 hp) (pf_wf C sts b he.2 hq) S
        simp! [f16, Ex.toD, hd.der, hd.inn, pf, oD, eder, e1, e2, e3, hp, hq, noneF, fder]
  | n + 1, k, .minus a b, hn, he => by
    have e1 := plain_form C hd S n k a (by simp only [dep] at hn; omega) he.1
    have e2 := plain_form C hd S n k b (by simp only [dep] at hn; omega) he.2
    rw [show k + (n + 1) + 4 = k + n + 4 + 1 from by omega, phi_succ (fn := f16) rfl rfl (by decide)]
    cases hp : pf sts a with
    | none =>
      rw [hp] at e1
      simp! [f16, Ex.toD, hd.der, hd.inn, pf, oD, eder, e1, e2, hp, noneN]
    | some f =>
      rw [hp] at e1
      cases hq : pf sts b with
      | none =>
        rw [hq] at e2
        simp! [f16, Ex.toD, hd.der, hd.inn, pf, oD, eder, e1, e2, hp, hq, noneN, noneF, fder]
      | some g =>
        rw [hq] at e2
        have e3 := minus_ok (k + n + 1) C.u (pf_wf C sts a he.1 hp) (pf_wf C sts b he.2 hq) S
        simp! [f16, Ex.toD, hd.der, hd.inn, pf, oD, eder, e1, e2, e3, hp, hq, noneF, fder]
end K62

set_option Elab.async false
set_option linter.all false
set_option maxRecDepth 100000
set_option maxHeartbeats 2000000
set_option autoImplicit false
/-! k62: plain forms the law's way; steady expressions; comparisons. -/
namespace K62
open Z Co
local macro_rules
  | `(tactic| simp! [$ts,*]) => `(tactic| simp [plains, deeps, D.fit, D.plain, D.deep, lim_ble, lim_blt, cut_fromI, cut_toI, ex_set, ex_setT, ex_aug, ex_put, ex_retv, rt_lit, rt_g, rt_pr, rt_sl, rt_mp, rt_mu, rt_tup, rt_lst, rt_call, rt_callv, rt_notV, rt_bopV, rt_ite, rt_cell, rt_kin, rt_kix, rt_comp, rt_dct, ex_retN, ex_ife, ex_brk, ex_cnt, ex_pass, ex_exp, ex_rais, exs_nil, exs_cons, call_eq, glob_eq, kd_eq, atI_zero, atI_1, atI_2, atI_3, atI_4, atI_5, atI_8, wipeZ, backZ, appendC, extendC, popC, insertC, rd_v, rp_v, rp_pr, rd_lit, rd_g, rd_pr, rd_sl, rd_mp, rd_mu, rd_tup, rd_lst, rd_call, rd_callv, rd_notV, rd_bopV, rd_ite, rd_cell, rd_kin, rd_kix, rd_comp, rd_dct, rd_fn, ev, evs, evo, evrs, evt, evtb, evts, evit, evb, readV, Place.get, Place.set, Arg.get, getAll, Res.bind, Res.then, RS.seq, lift, prim, prim1, prim2, binD, cmpD, ix_lst, ix_tup, ix_str, ix_dct, slD, lenP, lenD, intD, negD, bindTo, assign, assigns, fin, der_non, der_bl, der_int, der_str, der_tup, der_lst, der_dct, der_ref, der_scr, der_fn, gc, fit_str, fit_int, D.eqv, truthD, Cell.view, isList, mutC, mrecv, mprim, mprim2, mprim3, augD, toCell, Option.bind, fromF, isiP, isiD, tupleD, listD, seqOf, noX, iterD, isSh, pix0, pix1, pix2, pix3, pix5, pix8, pder, iix0, iix1, ider, sder, eix0, kind_ne, eder, aix0, aix0e, aix1, ader, cder, $ts,*])
theorem in_l2 (x a b : Wd) : inD (.str x) (.lst [.str a, .str b]) = some (decide (x = a ∨ x = b)) := (in_strs x [a, b]).trans (by simp)
theorem in_t2 (x a b : Wd) : inD (.str x) (.tup [.str a, .str b]) = some (decide (x = a ∨ x = b)) := (in_strsT x [a, b]).trans (by simp)
theorem oneL : (1 : Int) ≤ (LIM : Int) := by decide
theorem bound1 {c : Int} (h : c = -1 ∨ c = 2) : c.natAbs < 18446744073709551616 ∧ c ≠ 0 := by
  rcases h with h | h <;> subst h <;> decide
theorem rep1 (x : Wd) : (List.replicate 1 x).flatten = x := by simp
theorem rep0 (x : Wd) : (List.replicate 0 x).flatten = [] := by simp
theorem sg_at (b : Bool) : atI [D.int (-1), D.int 1] (if b then 1 else 0) = some (.int (if b then 1 else -1)) := by cases b <;> rfl
theorem law_plainly {U is as sts : List Wd} (C : Ctx U is as) {d : D} (hd : Sts sts d) (S : List Cell) : ∀ (n k : Nat) (e : Ex), dep e ≤ n → inE is as e → Phi tb (k + n + 4) 45 [e.toD, d] S = .ok false (oD (pf sts e)) S
  | n, k, .num z, hn, he => by
    rw [phi_succ (fn := f45) rfl rfl (by decide)]
    simp! [f45, Ex.toD, hd.der, hd.inn, pf, oD, fmD]
  | n, k, .name x, hn, he => by
    have e1 := law_var_ok (k + n + 2) x S
    have e2 := law_var_ok (k + n + 2) (64 :: x) S
    have b := lim_add1 (C.i1 x he).1
    have b0 : x.length ≤ LIM := by omega
    rw [phi_succ (fn := f45) rfl rfl (by decide)]
    by_cases h : x ∈ sts
    · simp! [f45, Ex.toD, hd.der, hd.inn, h, b, b0, e1, e2, pf, oD, skey, in_l2, in_t2, b2i, oneL]
    · simp! [f45, Ex.toD, hd.der, hd.inn, h, b, b0, e1, e2, pf, oD, skey, in_l2, in_t2, b2i, oneL]
  | n, k, .len x, hn, he => by
    have e1 := law_var_ok (k + n + 2) (35 :: x) S
    have e2 := law_var_ok (k + n + 2) (64 :: 35 :: x) S
    have b := lim_add1 (C.a1 x he).1
    have b2 := lim_add2 (C.a1 x he).1
    have b0 : x.length ≤ LIM := by omega
    rw [phi_succ (fn := f45) rfl rfl (by decide)]
    by_cases h : (35 :: x) ∈ sts
    · simp! [f45, Ex.toD, hd.der, hd.inn, h, b, b0, b2, e1, e2, pf, oD, skey, in_l2, in_t2, b2i, oneL]
    · simp! [f45, Ex.toD, hd.der, hd.inn, h, b, b0, b2, e1, e2, pf, oD, skey, in_l2, in_t2, b2i, oneL]
  | n, k, .item a e, hn, he => by
    rw [phi_succ (fn := f45) rfl rfl (by decide)]
    simp! [f45, Ex.toD, hd.der, hd.inn, pf, oD, eder, in_l2, in_t2, b2i, oneL]
  | n, k, .quo a e, hn, he => by
    rw [phi_succ (fn := f45) rfl rfl (by decide)]
    simp! [f45, Ex.toD, hd.der, hd.inn, pf, oD, eder, in_l2, in_t2, b2i, oneL]
  | n, k, .rem a e, hn, he => by
    rw [phi_succ (fn := f45) rfl rfl (by decide)]
    simp! [f45, Ex.toD, hd.der, hd.inn, pf, oD, eder, in_l2, in_t2, b2i, oneL]
  | n + 1, k, .scale c e, hn, he => by
    have e1 := law_plainly C hd S n k e (by simp only [dep] at hn; omega) he.2
    rw [show k + (n + 1) + 4 = k + n + 4 + 1 from by omega, phi_succ (fn := f45) rfl rfl (by decide)]
    cases hp : pf sts e with
    | none =>
      rw [hp] at e1
      simp! [f45, Ex.toD, hd.der, hd.inn, pf, oD, eder, e1, hp, noneN, in_l2, in_t2, b2i, oneL]
    | some f =>
      rw [hp] at e1
      have w := pf_wf C sts e he.2 hp
      have e2 := law_sum1 (k + n + 2) C.u (bound1 he.1).1 (bound1 he.1).2 w S
      simp! [f45, Ex.toD, hd.der, hd.inn, pf, oD, eder, e1, e2, hp, noneF, fder, in_l2, in_t2, b2i, oneL]
  | n + 1, k, .plus a b, hn, he => by
    have e1 := law_plainly C hd S n k a (by simp only [dep] at hn; omega) he.1
    have e2 := law_plainly C hd S n k b (by simp only [dep] at hn; omega) he.2
    rw [show k + (n + 1) + 4 = k + n + 4 + 1 from by omega, phi_succ (fn := f45) rfl rfl (by decide)]
    cases hp : pf sts a with
    | none =>
      rw [hp] at e1
      simp! [f45, Ex.toD, hd.der, hd.inn, pf, oD, eder, e1, e2, hp, noneN, in_l2, in_t2, b2i, oneL]
    | some f =>
      rw [hp] at e1
      cases hq : pf sts b with
      | none =>
        rw [hq] at e2
        simp! [f45, Ex.toD, hd.der, hd.inn, pf, oD, eder, e1, e2, hp, hq, noneN, noneF, fder, in_l2, in_t2, b2i, oneL]
      | some g =>
        rw [hq] at e2
        have e3 := law_sum2 (k + n + 2) C.u (i := 1) (by decide) (by decide) (pf_wf C sts a he.1 hp) (pf_wf C sts b he.2 hq) S
        rw [ftimes_one (pf_wf C sts b he.2 hq)] at e3
        simp! [f45, Ex.toD, hd.der, hd.inn, pf, oD, eder, e1, e2, e3, hp, hq, noneF, fder, in_l2, in_t2, b2i, oneL, fminus]
  | n + 1, k, .minus a b, hn, he => by
    have e1 := law_plainly C hd S n k a (by simp only [dep] at hn; omega) he.1
    have e2 := law_plainly C hd S n k b (by simp only [dep] at hn; omega) he.2
    rw [show k + (n + 1) + 4 = k + n + 4 + 1 from by omega, phi_succ (fn := f45) rfl rfl (by decide)]
    cases hp : pf sts a with
    | none =>
      rw [hp] at e1
      simp! [f45, Ex.toD, hd.der, hd.inn, pf, oD, eder, e1, e2, hp, noneN, in_l2, in_t2, b2i, oneL]
    | some f =>
      rw [hp] at e1
      cases hq : pf sts b with
      | none =>
        rw [hq] at e2
        simp! [f45, Ex.toD, hd.der, hd.inn, pf, oD, eder, e1, e2, hp, hq, noneN, noneF, fder, in_l2, in_t2, b2i, oneL]
      | some g =>
        rw [hq] at e2
        have e3 := law_sum2 (k + n + 2) C.u (i := -1) (by decide) (by decide) (pf_wf C sts a he.1 hp) (pf_wf C sts b he.2 hq) S
        simp! [f45, Ex.toD, hd.der, hd.inn, pf, oD, eder, e1, e2, e3, hp, hq, noneF, fder, in_l2, in_t2, b2i, oneL, fminus]
def stdy (s : List Wd) : Ex → Bool
  | .num _ => true
  | .name x => !decide (x ∈ s)
  | .len a => !decide ((35 :: a) ∈ s)
  | .scale _ e => stdy s e
  | .plus a b => stdy s a && stdy s b
  | .minus a b => stdy s a && stdy s b
  | _ => false
theorem is_steady_ok {U is as sts : List Wd} (C : Ctx U is as) {d : D} (hd : Sts sts d) (S : List Cell) : ∀ (n k : Nat) (e : Ex), dep e ≤ n → inE is as e → Phi tb (k + n + 1) 18 [e.toD, d] S = .ok false (.bl (stdy sts e)) S
  | n, k, .num z, hn, he => by
    rw [phi_succ (fn := f18) rfl rfl (by decide)]
    simp! [f18, Ex.toD, hd.der, hd.inn, stdy, in_l2, in_t2, b2i, oneL]
  | n, k, .name x, hn, he => by
    rw [phi_succ (fn := f18) rfl rfl (by decide)]
    simp! [f18, Ex.toD, hd.der, hd.inn, stdy, in_l2, in_t2, b2i, oneL]
  | n, k, .len x, hn, he => by
    have b := lim_add1 (C.a1 x he).1
    rw [phi_succ (fn := f18) rfl rfl (by decide)]
    simp! [f18, Ex.toD, hd.der, hd.inn, stdy, in_l2, in_t2, b2i, oneL, b]
  | n, k, .item a e, hn, he => by
    rw [phi_succ (fn := f18) rfl rfl (by decide)]
    simp! [f18, Ex.toD, hd.der, hd.inn, stdy, eder, in_l2, in_t2, b2i, oneL]
  | n, k, .quo a e, hn, he => by
    rw [phi_succ (fn := f18) rfl rfl (by decide)]
    simp! [f18, Ex.toD, hd.der, hd.inn, stdy, eder, in_l2, in_t2, b2i, oneL]
  | n, k, .rem a e, hn, he => by
    rw [phi_succ (fn := f18) rfl rfl (by decide)]
    simp! [f18, Ex.toD, hd.der, hd.inn, stdy, eder, in_l2, in_t2, b2i, oneL]
  | n + 1, k, .scale c e, hn, he => by
    have e1 := is_steady_ok C hd S n k e (by simp only [dep] at hn; omega) he.2
    rw [show k + (n + 1) + 1 = k + n + 1 + 1 from by omega, phi_succ (fn := f18) rfl rfl (by decide)]
    simp! [f18, Ex.toD, hd.der, hd.inn, stdy, eder, in_l2, in_t2, b2i, oneL, e1]
  | n + 1, k, .plus a b, hn, he => by
    have e1 := is_steady_ok C hd S n k a (by simp only [dep] at hn; omega) he.1
    have e2 := is_steady_ok C hd S n k b (by simp only [dep] at hn; omega) he.2
    rw [show k + (n + 1) + 1 = k + n + 1 + 1 from by omega, phi_succ (fn := f18) rfl rfl (by decide)]
    cases h1 : stdy sts a with
    | false =>
      rw [h1] at e1
      simp! [f18, Ex.toD, hd.der, hd.inn, stdy, eder, in_l2, in_t2, b2i, oneL, e1, e2, h1]
    | true =>
      rw [h1] at e1
      simp! [f18, Ex.toD, hd.der, hd.inn, stdy, eder, in_l2, in_t2, b2i, oneL, e1, e2, h1]
  | n + 1, k, .minus a b, hn, he => by
    have e1 := is_steady_ok C hd S n k a (by simp only [dep] at hn; omega) he.1
    have e2 := is_steady_ok C hd S n k b (by simp only [dep] at hn; omega) he.2
    rw [show k + (n + 1) + 1 = k + n + 1 + 1 from by omega, phi_succ (fn := f18) rfl rfl (by decide)]
    cases h1 : stdy sts a with
    | false =>
      rw [h1] at e1
      simp! [f18, Ex.toD, hd.der, hd.inn, stdy, eder, in_l2, in_t2, b2i, oneL, e1, e2, h1]
    | true =>
      rw [h1] at e1
      simp! [f18, Ex.toD, hd.der, hd.inn, stdy, eder, in_l2, in_t2, b2i, oneL, e1, e2, h1]
theorem law_steady_ok {U is as sts : List Wd} (C : Ctx U is as) {d : D} (hd : Sts sts d) (S : List Cell) : ∀ (n k : Nat) (e : Ex), dep e ≤ n → inE is as e → Phi tb (k + n + 1) 49 [e.toD, d] S = .ok false (.bl (stdy sts e)) S
  | n, k, .num z, hn, he => by
    rw [phi_succ (fn := f49) rfl rfl (by decide)]
    simp! [f49, Ex.toD, hd.der, hd.inn, stdy, in_l2, in_t2, b2i, oneL]
  | n, k, .name x, hn, he => by
    rw [phi_succ (fn := f49) rfl rfl (by decide)]
    simp! [f49, Ex.toD, hd.der, hd.inn, stdy, in_l2, in_t2, b2i, oneL]
  | n, k, .len x, hn, he => by
    have b := lim_add1 (C.a1 x he).1
    rw [phi_succ (fn := f49) rfl rfl (by decide)]
    simp! [f49, Ex.toD, hd.der, hd.inn, stdy, in_l2, in_t2, b2i, oneL, b]
  | n, k, .item a e, hn, he => by
    rw [phi_succ (fn := f49) rfl rfl (by decide)]
    simp! [f49, Ex.toD, hd.der, hd.inn, stdy, eder, in_l2, in_t2, b2i, oneL]
  | n, k, .quo a e, hn, he => by
    rw [phi_succ (fn := f49) rfl rfl (by decide)]
    simp! [f49, Ex.toD, hd.der, hd.inn, stdy, eder, in_l2, in_t2, b2i, oneL]
  | n, k, .rem a e, hn, he => by
    rw [phi_succ (fn := f49) rfl rfl (by decide)]
    simp! [f49, Ex.toD, hd.der, hd.inn, stdy, eder, in_l2, in_t2, b2i, oneL]
  | n + 1, k, .scale c e, hn, he => by
    have e1 := law_steady_ok C hd S n k e (by simp only [dep] at hn; omega) he.2
    rw [show k + (n + 1) + 1 = k + n + 1 + 1 from by omega, phi_succ (fn := f49) rfl rfl (by decide)]
    simp! [f49, Ex.toD, hd.der, hd.inn, stdy, eder, in_l2, in_t2, b2i, oneL, e1]
  | n + 1, k, .plus a b, hn, he => by
    have e1 := law_steady_ok C hd S n k a (by simp only [dep] at hn; omega) he.1
    have e2 := law_steady_ok C hd S n k b (by simp only [dep] at hn; omega) he.2
    rw [show k + (n + 1) + 1 = k + n + 1 + 1 from by omega, phi_succ (fn := f49) rfl rfl (by decide)]
    cases h1 : stdy sts a with
    | false =>
      rw [h1] at e1
      simp! [f49, Ex.toD, hd.der, hd.inn, stdy, eder, in_l2, in_t2, b2i, oneL, e1, e2, h1]
    | true =>
      rw [h1] at e1
      simp! [f49, Ex.toD, hd.der, hd.inn, stdy, eder, in_l2, in_t2, b2i, oneL, e1, e2, h1]
  | n + 1, k, .minus a b, hn, he => by
    have e1 := law_steady_ok C hd S n k a (by simp only [dep] at hn; omega) he.1
    have e2 := law_steady_ok C hd S n k b (by simp only [dep] at hn; omega) he.2
    rw [show k + (n + 1) + 1 = k + n + 1 + 1 from by omega, phi_succ (fn := f49) rfl rfl (by decide)]
    cases h1 : stdy sts a with
    | false =>
      rw [h1] at e1
      simp! [f49, Ex.toD, hd.der, hd.inn, stdy, eder, in_l2, in_t2, b2i, oneL, e1, e2, h1]
    | true =>
      rw [h1] at e1
      simp! [f49, Ex.toD, hd.der, hd.inn, stdy, eder, in_l2, in_t2, b2i, oneL, e1, e2, h1]
end K62

set_option Elab.async false
set_option linter.all false
set_option maxRecDepth 100000
set_option maxHeartbeats 2000000
set_option autoImplicit false
/-! k62: comparisons and the parts of the candidates. -/
namespace K62
open Z Co
local macro_rules
  | `(tactic| simp! [$ts,*]) => `(tactic| simp [plains, deeps, D.fit, D.plain, D.deep, lim_ble, lim_blt, cut_fromI, cut_toI, ex_set, ex_setT, ex_aug, ex_put, ex_retv, rt_lit, rt_g, rt_pr, rt_sl, rt_mp, rt_mu, rt_tup, rt_lst, rt_call, rt_callv, rt_notV, rt_bopV, rt_ite, rt_cell, rt_kin, rt_kix, rt_comp, rt_dct, ex_retN, ex_ife, ex_brk, ex_cnt, ex_pass, ex_exp, ex_rais, exs_nil, exs_cons, call_eq, glob_eq, kd_eq, atI_zero, atI_1, atI_2, atI_3, atI_4, atI_5, atI_8, wipeZ, backZ, appendC, extendC, popC, insertC, rd_v, rp_v, rp_pr, rd_lit, rd_g, rd_pr, rd_sl, rd_mp, rd_mu, rd_tup, rd_lst, rd_call, rd_callv, rd_notV, rd_bopV, rd_ite, rd_cell, rd_kin, rd_kix, rd_comp, rd_dct, rd_fn, ev, evs, evo, evrs, evt, evtb, evts, evit, evb, readV, Place.get, Place.set, Arg.get, getAll, Res.bind, Res.then, RS.seq, lift, prim, prim1, prim2, binD, cmpD, ix_lst, ix_tup, ix_str, ix_dct, slD, lenP, lenD, intD, negD, bindTo, assign, assigns, fin, der_non, der_bl, der_int, der_str, der_tup, der_lst, der_dct, der_ref, der_scr, der_fn, gc, fit_str, fit_int, D.eqv, truthD, Cell.view, isList, mutC, mrecv, mprim, mprim2, mprim3, augD, toCell, Option.bind, fromF, isiP, isiD, tupleD, listD, seqOf, noX, iterD, isSh, pix0, pix1, pix2, pix3, pix5, pix8, pder, iix0, iix1, ider, sder, eix0, kind_ne, eder, aix0, aix0e, aix1, ader, cder, $ts,*])
def atoms : Cd → List Cd
  | .less e f => [.less e f]
  | .same e f => [.same e f]
  | .not c => atoms c
  | .and c d => atoms c ++ atoms d
  | .or c d => atoms c ++ atoms d
theorem atoms_lf {c : Cd} (h : lf c) : atoms c = [c] := by cases c <;> first | rfl | cases h
theorem atoms_in {is as : List Wd} : ∀ {c : Cd}, inC is as c → ∀ a ∈ atoms c, lf a ∧ inC is as a
  | .less e f, h, a, ha => by rw [List.mem_singleton.mp ha]; exact ⟨trivial, h⟩
  | .same e f, h, a, ha => by rw [List.mem_singleton.mp ha]; exact ⟨trivial, h⟩
  | .not c, h, a, ha => atoms_in h.2 a ha
  | .and c d, h, a, ha => (List.mem_append.mp ha).elim (atoms_in h.1.2 a) (atoms_in h.2.2 a)
  | .or c d, h, a, ha => (List.mem_append.mp ha).elim (atoms_in h.1.2 a) (atoms_in h.2.2 a)
theorem atoms_len {is as : List Wd} : ∀ {c : Cd}, inC is as c → (atoms c).length ≤ 2
  | .less e f, h => by simp [atoms]
  | .same e f, h => by simp [atoms]
  | .not c, h => by simp [atoms, atoms_lf h.1]
  | .and c d, h => by simp [atoms, atoms_lf h.1.1, atoms_lf h.2.1]
  | .or c d, h => by simp [atoms, atoms_lf h.1.1, atoms_lf h.2.1]
theorem lim_1 : (1 : Nat) ≤ LIM := by decide
theorem lim_2 : (2 : Nat) ≤ LIM := by decide
theorem comps_lf (k : Nat) (S : List Cell) : ∀ {c : Cd}, lf c → Phi tb (k + 1) 15 [c.toD] S = .ok true (.lst [c.toD]) S
  | .less e f, _ => by
    rw [phi_succ (fn := f15) rfl rfl (by decide)]
    simp! [f15, Cd.toD, in_t2]
  | .same e f, _ => by
    rw [phi_succ (fn := f15) rfl rfl (by decide)]
    simp! [f15, Cd.toD, in_t2]
theorem comps (k : Nat) (S : List Cell) {is as : List Wd} : ∀ {c : Cd}, inC is as c → Phi tb (k + 2) 15 [c.toD] S = .ok true (.lst ((atoms c).map Cd.toD)) S
  | .less e f, _ => comps_lf (k + 1) S trivial
  | .same e f, _ => comps_lf (k + 1) S trivial
  | .not c, h => by
    have e1 := comps_lf k S h.1
    rw [phi_succ (fn := f15) rfl rfl (by decide)]
    simp! [f15, f15_b1, Cd.toD, in_t2, fbody, forL, exec, e1, atoms, atoms_lf h.1]
  | .and c d, h => by
    have e1 := comps_lf k S h.1.1
    have e2 := comps_lf k S h.2.1
    rw [phi_succ (fn := f15) rfl rfl (by decide)]
    simp! [f15, f15_b1, Cd.toD, in_t2, fbody, forL, exec, e1, e2, atoms, atoms_lf h.1.1, atoms_lf h.2.1]
  | .or c d, h => by
    have e1 := comps_lf k S h.1.1
    have e2 := comps_lf k S h.2.1
    rw [phi_succ (fn := f15) rfl rfl (by decide)]
    simp! [f15, f15_b1, Cd.toD, in_t2, fbody, forL, exec, e1, e2, atoms, atoms_lf h.1.1, atoms_lf h.2.1]
theorem law_comps_lf (k : Nat) (S : List Cell) : ∀ {c : Cd}, lf c → Phi tb (k + 1) 46 [c.toD] S = .ok true (.lst [c.toD]) S
  | .less e f, _ => by
    rw [phi_succ (fn := f46) rfl rfl (by decide)]
    simp! [f46, Cd.toD, in_l2]
  | .same e f, _ => by
    rw [phi_succ (fn := f46) rfl rfl (by decide)]
    simp! [f46, Cd.toD, in_l2]
theorem law_comps (k : Nat) (S : List Cell) {is as : List Wd} : ∀ {c : Cd}, inC is as c → Phi tb (k + 2) 46 [c.toD] S = .ok true (.lst ((atoms c).map Cd.toD)) S
  | .less e f, _ => law_comps_lf (k + 1) S trivial
  | .same e f, _ => law_comps_lf (k + 1) S trivial
  | .not c, h => by
    have e1 := law_comps_lf k S h.1
    rw [phi_succ (fn := f46) rfl rfl (by decide)]
    simp! [f46, f46_b1, Cd.toD, in_l2, fbody, forL, exec, e1, atoms, atoms_lf h.1]
  | .and c d, h => by
    have e1 := law_comps_lf k S h.1.1
    have e2 := law_comps_lf k S h.2.1
    rw [phi_succ (fn := f46) rfl rfl (by decide)]
    simp! [f46, f46_b1, Cd.toD, in_l2, fbody, forL, exec, e1, e2, atoms, atoms_lf h.1.1, atoms_lf h.2.1]
  | .or c d, h => by
    have e1 := law_comps_lf k S h.1.1
    have e2 := law_comps_lf k S h.2.1
    rw [phi_succ (fn := f46) rfl rfl (by decide)]
    simp! [f46, f46_b1, Cd.toD, in_l2, fbody, forL, exec, e1, e2, atoms, atoms_lf h.1.1, atoms_lf h.2.1]
/-! ### a comparison's forms -/
def cm2 (s : List Wd) (e f : Ex) : List Fm := match pf s e, pf s f with
  | some a, some b => [fminus a b, fminus b a, fplus (fminus a b) (-1, []), fplus (fminus b a) (-1, [])]
  | _, _ => []
def cmF (s : List Wd) : Cd → List Fm
  | .less e f => cm2 s e f
  | .same e f => cm2 s e f
  | _ => []
theorem neg1 : D.tup [.int (-1), .tup []] = fmD (-1, []) := rfl
theorem comp_forms2 (k : Nat) {U is as sts : List Wd} (C : Ctx U is as) {d : D} (hd : Sts sts d) (S : List Cell) (w : Wd) (e f : Ex) (he : inE is as e) (hf : inE is as f) (h1 : dep e ≤ 1) (h2 : dep f ≤ 1) : Phi tb (k + 6) 17 [.tup [.str w, e.toD, f.toD], d] S = .ok true (.lst ((cm2 sts e f).map fmD)) S := by
  have e1 := plain_form C hd S 1 k e h1 he
  have e2 := plain_form C hd S 1 k f h2 hf
  have e1 : Phi tb (k + 5) 16 [e.toD, d] S = .ok false (oD (pf sts e)) S := e1
  have e2 : Phi tb (k + 5) 16 [f.toD, d] S = .ok false (oD (pf sts f)) S := e2
  rw [phi_succ (fn := f17) rfl rfl (by decide)]
  cases hp : pf sts e with
  | none =>
    rw [hp] at e1
    simp! [f17, eder, e1, e2, hp, oD, noneN, cm2, hd.der]
  | some a =>
    rw [hp] at e1
    cases hq : pf sts f with
    | none =>
      rw [hq] at e2
      simp! [f17, eder, e1, e2, hp, hq, oD, noneN, noneF, fder, cm2, hd.der]
    | some b =>
      rw [hq] at e2
      have wa := pf_wf C sts e he hp
      have wb := pf_wf C sts f hf hq
      have e3 := minus_ok (k + 2) C.u wa wb S
      have e4 := minus_ok (k + 2) C.u wb wa S
      have e5 := plus_ok (k + 3) C.u (fminus_wf wa wb) (const_wf (-1)) S
      have e6 := plus_ok (k + 3) C.u (fminus_wf wb wa) (const_wf (-1)) S
      simp! [f17, eder, e1, e2, hp, hq, oD, noneF, fder, cm2, e3, e4, glob_tb1, neg1, e5, e6, hd.der]
theorem comp_forms (k : Nat) {U is as sts : List Wd} (C : Ctx U is as) {d : D} (hd : Sts sts d) (S : List Cell) {c : Cd} (hl : lf c) (hc : inC is as c) : Phi tb (k + 6) 17 [c.toD, d] S = .ok true (.lst ((cmF sts c).map fmD)) S := by
  cases c with
  | less e f => exact comp_forms2 k C hd S kless e f hc.1 hc.2.1 hc.2.2.1 hc.2.2.2
  | same e f => exact comp_forms2 k C hd S ksame e f hc.1 hc.2.1 hc.2.2.1 hc.2.2.2
  | not c => cases hl
  | and c d => cases hl
  | or c d => cases hl
theorem cm2_len (s : List Wd) (e f : Ex) : (cm2 s e f).length ≤ 4 := by
  unfold cm2
  split <;> simp
theorem cmF_len (s : List Wd) (c : Cd) : (cmF s c).length ≤ 4 := by
  cases c <;> first | exact cm2_len s _ _ | exact Nat.zero_le _
/-! ### steady values -/
def isAt (x : Wd) : Bool := match x with
  | c :: _ => c == 64
  | [] => false
def atB (f : Fm) : Bool := f.2.all fun p => isAt p.1
theorem at_var (s : List Wd) {x : Wd} (h : x ∉ s) : atB (fvar (skey s x)) = true := by simp [atB, fvar, skey, h, isAt]
theorem at_keys {f : Fm} : atB f = true ↔ ∀ x ∈ keysP f.2, isAt x = true := by
  simp only [atB, List.all_eq_true, keysP, List.mem_map]
  exact ⟨fun h x ⟨p, hp, e⟩ => e ▸ h p hp, fun h p hp => h _ ⟨p, hp, rfl⟩⟩
theorem at_sc {c : Int} {f : Fm} (k : Int) (h : atB f = true) : atB (c, sc k f.2) = true := by
  simp only [atB, List.all_eq_true] at h ⊢
  intro p hp
  obtain ⟨q, hq, rfl⟩ := List.mem_map.mp hp
  exact h q hq
theorem at_times {f : Fm} (k : Int) (h : atB f = true) : atB (ftimes k f) = true := by
  unfold ftimes
  split
  · rfl
  · exact at_sc k h
theorem keys_fold {x : Wd} : ∀ (ps a : List Pr), x ∈ keysP (ps.foldl (fun a p => dadd a p.1 p.2) a) → x ∈ keysP a ∨ x ∈ keysP ps
  | [], a, h => .inl h
  | p :: ps, a, h => by
    rcases keys_fold ps _ h with h | h
    · rcases mem_dadd a p.1 p.2 h with h | h
      · exact .inl h
      · exact .inr (by simp [keysP, h])
    · exact .inr (by simp only [keysP, List.map_cons, List.mem_cons]; exact .inr h)
theorem at_plus {f g : Fm} (hf : atB f = true) (hg : atB g = true) : atB (fplus f g) = true := by
  unfold fplus
  split
  · exact hf
  · rw [at_keys] at hf hg ⊢
    intro x hx
    simp only [keysP, nrm, List.map_map, List.mem_map, List.mem_filter] at hx
    obtain ⟨y, ⟨hy, _⟩, rfl⟩ := hx
    have hy := (sortL_perm _).mem_iff.mp hy
    rcases keys_fold _ _ hy with h | h
    · cases h
    · simp only [keysP, List.map_append, List.mem_append] at h
      exact h.elim (hf y) (hg y)
theorem stdy_pf (s : List Wd) : ∀ (e : Ex), stdy s e = true → ∃ f, pf s e = some f ∧ atB f = true
  | .num n, _ => ⟨_, rfl, rfl⟩
  | .name x, h => ⟨_, rfl, at_var s (by simpa [stdy] using h)⟩
  | .len x, h => ⟨_, rfl, at_var s (by simpa [stdy] using h)⟩
  | .scale c e, h => by
    obtain ⟨f, h1, h2⟩ := stdy_pf s e h
    exact ⟨ftimes c f, by simp [pf, h1], at_times c h2⟩
  | .plus a b, h => by
    simp only [stdy, Bool.and_eq_true] at h
    obtain ⟨f, h1, h2⟩ := stdy_pf s a h.1
    obtain ⟨g, h3, h4⟩ := stdy_pf s b h.2
    exact ⟨fplus f g, by simp [pf, h1, h3], at_plus h2 h4⟩
  | .minus a b, h => by
    simp only [stdy, Bool.and_eq_true] at h
    obtain ⟨f, h1, h2⟩ := stdy_pf s a h.1
    obtain ⟨g, h3, h4⟩ := stdy_pf s b h.2
    exact ⟨fminus f g, by simp [pf, h1, h3], at_plus h2 (at_times _ h4)⟩
def seF (s : List Wd) (x : Wd) (e : Ex) : List Fm := if stdy s e = true then (match pf s e with
  | some f => [fminus (fvar x) f, fminus f (fvar x)]
  | none => []) else []
theorem seF_len (s : List Wd) (x : Wd) (e : Ex) : (seF s x e).length ≤ 2 := by
  unfold seF
  split
  · split <;> simp
  · simp
theorem set_forms (k : Nat) {U is as sts : List Wd} (C : Ctx U is as) {d : D} (hd : Sts sts d) (S : List Cell) {x : Wd} (hx : x ∈ is) {e : Ex} (he : inE is as e) (h1 : dep e ≤ 2) : Phi tb (k + 7) 19 [.str x, e.toD, d] S = .ok true (.lst ((seF sts x e).map fmD)) S := by
  have e1 : Phi tb (k + 6) 16 [e.toD, d] S = .ok false (oD (pf sts e)) S := plain_form C hd S 2 k e h1 he
  have e2 : Phi tb (k + 6) 18 [e.toD, d] S = .ok false (.bl (stdy sts e)) S := is_steady_ok C hd S 2 (k + 3) e h1 he
  have e3 := variable_ok (k + 5) x S
  rw [phi_succ (fn := f19) rfl rfl (by decide)]
  cases hs : stdy sts e with
  | false =>
    rw [hs] at e2
    simp! [f19, eder, hd.der, e2, seF, hs]
  | true =>
    rw [hs] at e2
    obtain ⟨f, hf, _⟩ := stdy_pf sts e hs
    rw [hf] at e1
    have e4 := differences_of (k + 2) C.u (fvar_wf (C.i1 x hx).2.1) (pf_wf C sts e he hf) S
    simp! [f19, eder, hd.der, e1, e2, e3, e4, seF, hs, hf, oD]
/-! ### differences -/
def diF (i : Itm) : List Fm := [fminus (fvar i.key) (fvar (64 :: i.key)), fminus (fvar (64 :: i.key)) (fvar i.key)]
structure KeyOk (U : List Wd) (i : Itm) : Prop where
  x : i.x.length ≤ 99
  a : i.key ∈ U
  b : (64 :: i.key) ∈ U
theorem key_lim (i : Itm) (h : i.x.length ≤ 99) : 1 + i.key.length ≤ LIM := by
  have : LIM = 16777216 := rfl
  unfold Itm.key
  split
  · simp only [List.length_cons]; omega
  · omega
def diS (d : D) (S : List Cell) (j : Slot × Slot × Slot) (acc : List Fm) : Sta := ⟨[.sh d, .own (.L (acc.map fmD)), j.1, j.2.1, j.2.2], S⟩
theorem differences (k : Nat) {U : List Wd} (u : UOk U) (its : List Itm) (hk : ∀ i ∈ its, KeyOk U i) (hl : its.length ≤ 99) (S : List Cell) : Phi tb (k + 4) 20 [.lst (its.map Itm.toD)] S = .ok true (.lst ((its.flatMap diF).map fmD)) S := by
  have hlen : ([] : List Fm).length + (its.flatMap diF).length ≤ 999 := by
    have : ∀ l : List Itm, (l.flatMap diF).length = 2 * l.length := by
      intro l
      induction l with
      | nil => rfl
      | cons a l ih => simp [diF, ih]; omega
    simp [this]
    omega
  obtain ⟨j, hloop⟩ := forL_appJ (body := fbody (prog tb (k + 3)) (.v 2) f20_b1) (toD := Itm.toD) (st := diS (.lst (its.map Itm.toD)) S) (f := diF) 999 its [] (.no, .no, .no) hlen fun j acc i hi h => by
    have K := hk i hi
    have e1 := variable_of (k + 2) i K.x S
    have e2 := variable_ok (k + 2) i.key S
    have e3 := variable_ok (k + 2) (64 :: i.key) S
    have e4 := minus_ok k u (fvar_wf K.a) (fvar_wf K.b) S
    have e5 := minus_ok k u (fvar_wf K.b) (fvar_wf K.a) S
    have b := key_lim i K.x
    have h : acc.length + 2 ≤ 999 := h
    have h2 : acc.length + 2 ≤ LIM := Nat.le_trans h (by decide)
    refine ⟨(.sh i.toD, .sh (fmD (fvar i.key)), .sh (fmD (fvar (64 :: i.key)))), ?_⟩
    simp! [fbody, f20_b1, diS, e1, e2, e3, e4, e5, b, h2, diF, fder]
  rw [phi_succ (fn := f20) rfl rfl (by decide)]
  show fin S.length (execs (prog tb (k + 3)) f20.body ⟨[.sh (.lst (its.map Itm.toD)), .no, .no, .no, .no], S⟩) = _
  unfold f20
  refine fin_seq (s1 := diS (.lst (its.map Itm.toD)) S (.no, .no, .no) []) (by simp! [diS]) ?_
  refine fin_seq (s1 := diS (.lst (its.map Itm.toD)) S j (its.flatMap diF)) (fr_go (s1 := diS (.lst (its.map Itm.toD)) S (.no, .no, .no) []) (ds := its.map Itm.toD) (by simp! [diS]) (by simpa using hloop)) ?_
  simp! [diS]
/-! ### no doubles -/
def wdl (acc fs : List Fm) : List Fm := fs.foldl (fun acc f => if f.2 ≠ [] ∧ f ∉ acc then acc ++ [f] else acc) acc
theorem wdl_len : ∀ (fs acc : List Fm), (wdl acc fs).length ≤ acc.length + fs.length
  | [], acc => Nat.le_refl _
  | f :: fs, acc => by
    have := wdl_len fs (if f.2 ≠ [] ∧ f ∉ acc then acc ++ [f] else acc)
    simp only [wdl, List.foldl_cons] at this ⊢
    split at this <;> rename_i h <;> simp only [h, if_true, if_false, List.length_append, List.length_cons, List.length_nil] at this ⊢ <;> simp_all <;> omega
theorem wd_loop (k : Nat) (d : D) (S : List Cell) : ∀ (fs acc : List Fm) (j : Slot), acc.length + fs.length ≤ LIM → ∃ j', forL (fbody (prog tb k) (.v 2) f14_b1) (fs.map fmD) ⟨[.sh d, .own (.L (acc.map fmD)), j], S⟩ = .next ⟨[.sh d, .own (.L ((wdl acc fs).map fmD)), j'], S⟩
  | [], acc, j, _ => ⟨j, by simp [forL, wdl]⟩
  | f :: fs, acc, j, hl => by
    simp only [List.length_cons] at hl
    have hi := in_fms f acc
    have h2 : acc.length < LIM := by omega
    have hs : fbody (prog tb k) (.v 2) f14_b1 (fmD f) ⟨[.sh d, .own (.L (acc.map fmD)), j], S⟩ = .next ⟨[.sh d, .own (.L ((if f.2 ≠ [] ∧ f ∉ acc then acc ++ [f] else acc).map fmD)), .sh (fmD f)], S⟩ := by
      by_cases h0 : f.2 = []
      · simp! [fbody, f14_b1, fder, fix1, h0]
      · by_cases h1 : f ∈ acc
        · simp! [fbody, f14_b1, fder, fix1, h0, hi, h1]
        · simp! [fbody, f14_b1, fder, fix1, h0, hi, h1, h2]
    obtain ⟨j2, h3⟩ := wd_loop k d S fs (if f.2 ≠ [] ∧ f ∉ acc then acc ++ [f] else acc) (.sh (fmD f)) (by
      split
      · simp only [List.length_append, List.length_cons, List.length_nil]; omega
      · omega)
    refine ⟨j2, ?_⟩
    simp only [List.map_cons, forL, hs]
    exact h3
theorem without_doubles (k : Nat) (f0 : Fm) (fs : List Fm) (hl : 1 + fs.length ≤ LIM) (S : List Cell) : Phi tb (k + 1) 14 [.lst ((f0 :: fs).map fmD)] S = .ok false (.tup ((wdl [f0] fs).map fmD)) S := by
  obtain ⟨j, hloop⟩ := wd_loop k (.lst ((f0 :: fs).map fmD)) S fs [f0] .no hl
  have hw : (wdl [f0] fs).length ≤ LIM := Nat.le_trans (wdl_len fs [f0]) hl
  rw [phi_succ (fn := f14) rfl rfl (by decide)]
  show fin S.length (execs (prog tb k) f14.body ⟨[.sh (.lst ((f0 :: fs).map fmD)), .no, .no], S⟩) = _
  unfold f14
  refine fin_seq (s1 := ⟨[.sh (.lst ((f0 :: fs).map fmD)), .own (.L ([f0].map fmD)), .no], S⟩) (by simp! []) ?_
  refine fin_seq (s1 := ⟨[.sh (.lst ((f0 :: fs).map fmD)), .own (.L ((wdl [f0] fs).map fmD)), j], S⟩) (fr_go (s1 := ⟨[.sh (.lst ((f0 :: fs).map fmD)), .own (.L ([f0].map fmD)), .no], S⟩) (ds := fs.map fmD) (by simp! []) hloop) ?_
  simp! [hw]
end K62

set_option Elab.async false
set_option linter.all false
set_option maxRecDepth 100000
set_option maxHeartbeats 4000000
set_option autoImplicit false
/-! k62: the candidates, walked. -/
namespace K62
open Z Co
local macro_rules
  | `(tactic| simp! [$ts,*]) => `(tactic| simp [plains, deeps, D.fit, D.plain, D.deep, lim_ble, lim_blt, cut_fromI, cut_toI, ex_set, ex_setT, ex_aug, ex_put, ex_retv, rt_lit, rt_g, rt_pr, rt_sl, rt_mp, rt_mu, rt_tup, rt_lst, rt_call, rt_callv, rt_notV, rt_bopV, rt_ite, rt_cell, rt_kin, rt_kix, rt_comp, rt_dct, ex_retN, ex_ife, ex_brk, ex_cnt, ex_pass, ex_exp, ex_rais, exs_nil, exs_cons, call_eq, glob_eq, kd_eq, atI_zero, atI_1, atI_2, atI_3, atI_4, atI_5, atI_8, wipeZ, backZ, appendC, extendC, popC, insertC, rd_v, rp_v, rp_pr, rd_lit, rd_g, rd_pr, rd_sl, rd_mp, rd_mu, rd_tup, rd_lst, rd_call, rd_callv, rd_notV, rd_bopV, rd_ite, rd_cell, rd_kin, rd_kix, rd_comp, rd_dct, rd_fn, ev, evs, evo, evrs, evt, evtb, evts, evit, evb, readV, Place.get, Place.set, Arg.get, getAll, Res.bind, Res.then, RS.seq, lift, prim, prim1, prim2, binD, cmpD, ix_lst, ix_tup, ix_str, ix_dct, slD, lenP, lenD, intD, negD, bindTo, assign, assigns, fin, der_non, der_bl, der_int, der_str, der_tup, der_lst, der_dct, der_ref, der_scr, der_fn, gc, fit_str, fit_int, D.eqv, truthD, Cell.view, isList, mutC, mrecv, mprim, mprim2, mprim3, augD, toCell, Option.bind, fromF, isiP, isiD, tupleD, listD, seqOf, noX, iterD, isSh, pix0, pix1, pix2, pix3, pix5, pix8, pder, iix0, iix1, ider, sder, eix0, kind_ne, eder, aix0, aix0e, aix1, ader, cder, $ts,*])
def BSt (is as : List Wd) : St → Prop
  | .set x e => x ∈ is ∧ inE is as e ∧ dep e ≤ 2
  | .whl c _ => inC is as c
  | .ite c _ _ => inC is as c
  | _ => True
structure PCtx (U is as : List Wd) (p : Proc) (hf : List Fm) : Prop where
  C : Ctx U is as
  ks : ∀ i ∈ p.items ++ p.places, KeyOk U i
  st : ∀ s ∈ flat p.body, BSt is as s
  hn : p.hints = hf.map fmD
  hl : hf.length ≤ 99
def cdF (s : List Wd) (c : Cd) : List Fm := (atoms c).flatMap (cmF s)
def stF (s : List Wd) : St → List Fm
  | .whl c _ => cdF s c
  | .ite c _ _ => cdF s c
  | _ => []
def stE (s : List Wd) : St → List Fm
  | .set x e => seF s x e
  | _ => []
theorem cdF_len {is as : List Wd} (s : List Wd) {c : Cd} (h : inC is as c) : (cdF s c).length ≤ 8 := by
  have h2 := atoms_len h
  have : ∀ l : List Cd, (l.flatMap (cmF s)).length ≤ 4 * l.length := by
    intro l
    induction l with
    | nil => simp
    | cons a l ih =>
      have := cmF_len s a
      simp only [List.flatMap_cons, List.length_append, List.length_cons]
      omega
  have := this (atoms c)
  unfold cdF
  omega
theorem stF_len {is as : List Wd} (s : List Wd) {t : St} (h : BSt is as t) : (stF s t).length ≤ 8 := by
  cases t <;> first | exact cdF_len s h | exact Nat.zero_le _
theorem stE_len (s : List Wd) (t : St) : (stE s t).length ≤ 8 := by
  cases t <;> first | exact Nat.le_trans (seF_len s _ _) (by decide) | exact Nat.zero_le _
theorem flat_len {α : Type} {f : α → List Fm} {n : Nat} : ∀ {l : List α}, (∀ x ∈ l, (f x).length ≤ n) → (l.flatMap f).length ≤ n * l.length
  | [], _ => by simp
  | a :: l, h => by
    have h1 := h a List.mem_cons_self
    have h2 := flat_len (l := l) fun x hx => h x (List.mem_cons_of_mem _ hx)
    simp only [List.flatMap_cons, List.length_append, List.length_cons, Nat.mul_add, Nat.mul_one]
    omega
abbrev J4 := Slot × Slot × Slot × Slot
/-- the state of the loops -/
def pcS (d0 d1 d2 d3 : D) (j5 j6 : Slot) (S : List Cell) (j : J4) (acc : List Fm) : Sta := ⟨[.sh d0, .sh d1, .sh d2, .sh d3, .own (.L (acc.map fmD)), j5, j6, j.1, j.2.1, j.2.2.1, j.2.2.2], S⟩
theorem pc_atoms (k : Nat) {U is as sts : List Wd} (C : Ctx U is as) (d0 d1 d2 : D) (j5 j6 j7 j9 j10 : Slot) (S : List Cell) (l : List Cd) (hl : ∀ a ∈ l, lf a ∧ inC is as a) (j8 : Slot) (acc : List Fm) (hn : acc.length + (l.flatMap (cmF sts)).length ≤ 99999) :
    ∃ j8', forL (fbody (prog tb (k + 7)) (.v 8) f21_b2) (l.map Cd.toD) (pcS d0 d1 d2 (sD sts) j5 j6 S (j7, j8, j9, j10) acc) = .next (pcS d0 d1 d2 (sD sts) j5 j6 S (j7, j8', j9, j10) (acc ++ l.flatMap (cmF sts))) := by
  refine forL_appJ (J := Slot) (st := fun j8 acc => pcS d0 d1 d2 (sD sts) j5 j6 S (j7, j8, j9, j10) acc) 99999 l acc j8 hn fun j8 acc a ha h => ⟨.sh a.toD, ?_⟩
  obtain ⟨h1, h2⟩ := hl a ha
  have e := comp_forms (k + 1) C (sts_T sts) S h1 h2
  have e : Phi tb (k + 7) 17 [a.toD, sD sts] S = _ := e
  have h3 : acc.length + (cmF sts a).length ≤ LIM := Nat.le_trans h (by decide)
  generalize sD sts = ss at e ⊢
  simp! [fbody, f21_b2, pcS, e, h3]
theorem pc_body (k : Nat) {U is as sts : List Wd} (C : Ctx U is as) (d0 d1 d2 : D) (j5 j6 : Slot) (S : List Cell) (j : J4) (acc : List Fm) (s : St) (hs : BSt is as s) (hn : acc.length + (stF sts s).length ≤ 99999) :
    ∃ j', fbody (prog tb (k + 7)) (.v 7) f21_b3 s.toD (pcS d0 d1 d2 (sD sts) j5 j6 S j acc) = .next (pcS d0 d1 d2 (sD sts) j5 j6 S j' (acc ++ stF sts s)) := by
  cases s with
  | whl c b =>
    have e := comps (k + 5) S hs
    have e : Phi tb (k + 7) 15 [c.toD] S = .ok true (.lst ((atoms c).map Cd.toD)) S := e
    obtain ⟨j8, hl⟩ := pc_atoms k (sts := sts) C d0 d1 d2 j5 j6 (.sh (St.whl c b).toD) j.2.2.1 j.2.2.2 S (atoms c) (atoms_in hs) j.2.1 acc hn
    refine ⟨(.sh (St.whl c b).toD, j8, j.2.2.1, j.2.2.2), fbody_v (by simp [pcS]) ?_⟩
    show execs (prog tb (k + 7)) f21_b3 (pcS d0 d1 d2 (sD sts) j5 j6 S (.sh (St.whl c b).toD, j.2.1, j.2.2.1, j.2.2.2) acc) = _
    unfold f21_b3
    refine seq_end (exec_if_true (s1 := pcS d0 d1 d2 (sD sts) j5 j6 S (.sh (St.whl c b).toD, j.2.1, j.2.2.1, j.2.2.2) acc) (by simp! [pcS, St.toD, in_t2]) (seq_end (fr_go (s1 := pcS d0 d1 d2 (sD sts) j5 j6 S (.sh (St.whl c b).toD, j.2.1, j.2.2.1, j.2.2.2) acc) (ds := (atoms c).map Cd.toD) (by simp! [pcS, St.toD, e]) hl)))
  | ite c b b2 =>
    have e := comps (k + 5) S hs
    have e : Phi tb (k + 7) 15 [c.toD] S = .ok true (.lst ((atoms c).map Cd.toD)) S := e
    obtain ⟨j8, hl⟩ := pc_atoms k (sts := sts) C d0 d1 d2 j5 j6 (.sh (St.ite c b b2).toD) j.2.2.1 j.2.2.2 S (atoms c) (atoms_in hs) j.2.1 acc hn
    refine ⟨(.sh (St.ite c b b2).toD, j8, j.2.2.1, j.2.2.2), fbody_v (by simp [pcS]) ?_⟩
    show execs (prog tb (k + 7)) f21_b3 (pcS d0 d1 d2 (sD sts) j5 j6 S (.sh (St.ite c b b2).toD, j.2.1, j.2.2.1, j.2.2.2) acc) = _
    unfold f21_b3
    refine seq_end (exec_if_true (s1 := pcS d0 d1 d2 (sD sts) j5 j6 S (.sh (St.ite c b b2).toD, j.2.1, j.2.2.1, j.2.2.2) acc) (by simp! [pcS, St.toD, in_t2]) (seq_end (fr_go (s1 := pcS d0 d1 d2 (sD sts) j5 j6 S (.sh (St.ite c b b2).toD, j.2.1, j.2.2.1, j.2.2.2) acc) (ds := (atoms c).map Cd.toD) (by simp! [pcS, St.toD, e]) hl)))
  | set x e => exact ⟨(.sh (St.set x e).toD, j.2), by simp! [pcS, fbody, f21_b3, St.toD, in_t2, stF]⟩
  | store x e f => exact ⟨(.sh (St.store x e f).toD, j.2), by simp! [pcS, fbody, f21_b3, St.toD, in_t2, stF]⟩
  | push x e => exact ⟨(.sh (St.push x e).toD, j.2), by simp! [pcS, fbody, f21_b3, St.toD, in_t2, stF]⟩
  | pop x e => exact ⟨(.sh (St.pop x e).toD, j.2), by simp! [pcS, fbody, f21_b3, St.toD, in_t2, stF]⟩
  | pause => exact ⟨(.sh St.pause.toD, j.2), by simp! [pcS, fbody, f21_b3, St.toD, in_t2, stF]⟩
  | call x e f => exact ⟨(.sh (St.call x e f).toD, j.2), by simp! [pcS, fbody, f21_b3, St.toD, in_t2, stF]⟩
  | give e => exact ⟨(.sh (St.give e).toD, j.2), by simp! [pcS, fbody, f21_b3, St.toD, in_t2, stF]⟩
theorem pc_body2 (k : Nat) {U is as sts : List Wd} (C : Ctx U is as) (d0 d1 d2 : D) (j5 j6 : Slot) (S : List Cell) (j : J4) (acc : List Fm) (s : St) (hs : BSt is as s) (hn : acc.length + (stE sts s).length ≤ 99999) :
    ∃ j', fbody (prog tb (k + 7)) (.v 7) f21_b5 s.toD (pcS d0 d1 d2 (sD sts) j5 j6 S j acc) = .next (pcS d0 d1 d2 (sD sts) j5 j6 S j' (acc ++ stE sts s)) := by
  cases s with
  | set x e =>
    have h := set_forms k C (sts_T sts) S hs.1 hs.2.1 hs.2.2
    have h3 : acc.length + (seF sts x e).length ≤ LIM := Nat.le_trans hn (by decide)
    refine ⟨(.sh (St.set x e).toD, j.2.1, .sh (.str x), .sh e.toD), ?_⟩
    generalize sD sts = ss at h ⊢
    simp! [pcS, fbody, forL, exec, f21_b5, f21_b4, St.toD, h, h3, stE, eder]
  | whl c b => exact ⟨(.sh (St.whl c b).toD, j.2), by simp! [pcS, fbody, f21_b5, St.toD, stE]⟩
  | ite c b b2 => exact ⟨(.sh (St.ite c b b2).toD, j.2), by simp! [pcS, fbody, f21_b5, St.toD, stE]⟩
  | store x e f => exact ⟨(.sh (St.store x e f).toD, j.2), by simp! [pcS, fbody, f21_b5, St.toD, stE]⟩
  | push x e => exact ⟨(.sh (St.push x e).toD, j.2), by simp! [pcS, fbody, f21_b5, St.toD, stE]⟩
  | pop x e => exact ⟨(.sh (St.pop x e).toD, j.2), by simp! [pcS, fbody, f21_b5, St.toD, stE]⟩
  | pause => exact ⟨(.sh St.pause.toD, j.2), by simp! [pcS, fbody, f21_b5, St.toD, stE]⟩
  | call x e f => exact ⟨(.sh (St.call x e f).toD, j.2), by simp! [pcS, fbody, f21_b5, St.toD, stE]⟩
  | give e => exact ⟨(.sh (St.give e).toD, j.2), by simp! [pcS, fbody, f21_b5, St.toD, stE]⟩
theorem under_prs (n : Nat) : ∀ l : List Pr, unders n (l.map prD) = true
  | [] => rfl
  | p :: l => by simp [unders, prD, D.under, under_prs n l]
theorem under_fm (n : Nat) (f : Fm) : (fmD f).under n = true := by simp [fmD, D.under, unders, under_prs]
theorem under_fms (n : Nat) : ∀ l : List Fm, unders n (l.map fmD) = true
  | [] => rfl
  | f :: l => by simp [unders, under_fm, under_fms n l]
/-- what is found, ahead of the hints -/
noncomputable def fnd (sts : List Wd) (ms : List Itm) (b : List St) : List Fm := sts.map fvar ++ ms.flatMap diF ++ b.flatMap (stF sts) ++ b.flatMap (stE sts)
noncomputable def stsOf (c : List Proc) (p : Proc) : List Wd := (mv c p ++ p.places).map Itm.key
theorem point_candidates (k : Nat) {c : List Proc} (G : GCore c) {U is as : List Wd} {p : Proc} {hf : List Fm} (P : PCtx U is as p hf) (hp : p ∈ c) (S0 : List Cell) (hS : okS S0 = true) :
    Phi tb (k + 8) 21 [coreD c, .str p.name] S0 = .ok false (.tup ((wdl [(-1, [])] (fnd (stsOf c p) (mv c p) (flat p.body) ++ hf)).map fmD)) S0 := by
  have g := G.ps p hp
  obtain ⟨T, e1, hI, hC⟩ := moving_table (k + 2) G (List.ne_nil_of_mem hp) S0
  have e2 := proc_named (k + 6) G hp S0
  have e3 := states_of (k + 1) G hp hS
  have e4 := moving_items (k + 5) (S0 := S0) G hI.len hp
  rw [movI_mv G hI hC hp] at e4
  have hmv : (mv c p).length ≤ 3 := Nat.le_trans (List.length_filter_le _ _) g.il
  have hmk : ∀ i ∈ mv c p, KeyOk U i := fun i hi => P.ks i (List.mem_append_left _ (List.mem_filter.mp hi).1)
  have e5 := differences (k + 3) P.C.u (mv c p) hmk (by omega) (S0 ++ tabC T)
  have e6 := sts (k + 4) g (S0 ++ tabC T)
  have hst : (stsOf c p).length ≤ 12 := by
    unfold stsOf
    rw [List.length_map, List.length_append]
    have := g.pl
    omega
  have hd : ((mv c p).flatMap diF).length ≤ 2 * (mv c p).length := flat_len fun i _ => by simp [diF]
  have hf1 : ((flat p.body).flatMap (stF (stsOf c p))).length ≤ 8 * (flat p.body).length := flat_len fun s hs => stF_len _ (P.st s hs)
  have hf2 : ((flat p.body).flatMap (stE (stsOf c p))).length ≤ 8 * (flat p.body).length := flat_len fun s hs => stE_len _ s
  have hb := g.ln
  have hhl := P.hl
  change Phi tb (k + 7) 13 [coreD c, .str p.name] S0 = .ok false (sD (stsOf c p)) S0 at e3
  generalize hsts : stsOf c p = sts at *
  have hvar : ev (prog tb (k + 7)) f21_c1 ⟨[.sh (coreD c), .sh (.str p.name), .sh p.toD, .sh (sD sts), .no, .no, .no, .no, .no, .no, .no], S0⟩ = .ok (true, .lst ((sts.map fvar).map fmD)) ⟨[.sh (coreD c), .sh (.str p.name), .sh p.toD, .sh (sD sts), .no, .no, .no, .no, .no, .no, .no], S0⟩ := by
    unfold f21_c1
    refine (ev_compM (σ1 := [.sh (coreD c), .sh (.str p.name), .sh p.toD, .sh (sD sts), .no, .no, .no, .no, .no, .no, .no]) (S1 := S0) sts D.str (fun x => fmD (fvar x)) rfl (by simp! [sD]) (lim_le (by omega)) fun x hx => ?_).trans (by rw [List.map_map]; rfl)
    have e := variable_ok (k + 6) x S0
    generalize sD sts = ss
    simp! [cturn, e]
  obtain ⟨j, hl1⟩ := forL_appJ (body := fbody (prog tb (k + 7)) (.v 7) f21_b3) (toD := St.toD) (st := pcS (coreD c) (.str p.name) p.toD (sD sts) .no (.sh (.lst ((flat p.body).map St.toD))) (S0 ++ tabC T)) (f := stF sts) 99999 (flat p.body) ((-1, []) :: sts.map fvar ++ (mv c p).flatMap diF) (.no, .no, .no, .no) (by simp only [List.length_append, List.length_cons, List.length_map]; omega) fun j acc s hs h => pc_body k P.C _ _ _ _ _ _ j acc s (P.st s hs) h
  obtain ⟨j', hl2⟩ := forL_appJ (body := fbody (prog tb (k + 7)) (.v 7) f21_b5) (toD := St.toD) (st := pcS (coreD c) (.str p.name) p.toD (sD sts) .no (.sh (.lst ((flat p.body).map St.toD))) (S0 ++ tabC T)) (f := stE sts) 99999 (flat p.body) ((-1, []) :: sts.map fvar ++ (mv c p).flatMap diF ++ (flat p.body).flatMap (stF sts)) j (by simp only [List.length_append, List.length_cons, List.length_map]; omega) fun j acc s hs h => pc_body2 k P.C _ _ _ _ _ _ j acc s (P.st s hs) h
  have hfl : (fnd sts (mv c p) (flat p.body)).length ≤ 99000 := by
    unfold fnd
    simp only [List.length_append, List.length_map]
    omega
  have e7 := without_doubles (k + 6) (-1, []) (fnd sts (mv c p) (flat p.body) ++ hf) (by have : LIM = 16777216 := rfl; rw [List.length_append]; omega) (S0 ++ tabC T)
  rw [phi_succ (fn := f21) rfl rfl (by decide)]
  show fin S0.length (execs (prog tb (k + 7)) f21.body ⟨[.sh (coreD c), .sh (.str p.name), .no, .no, .no, .no, .no, .no, .no, .no, .no], S0⟩) = _
  have h99 : 1 + sts.length ≤ LIM := lim_le (by omega)
  have hA : 1 + sts.length + ((mv c p).flatMap diF).length ≤ LIM := lim_le (by omega)
  have hA2 : sts.length + 1 + ((mv c p).flatMap diF).length ≤ LIM := lim_le (by omega)
  unfold f21
  refine fin_seq (s1 := ⟨[.sh (coreD c), .sh (.str p.name), .sh p.toD, .no, .no, .no, .no, .no, .no, .no, .no], S0⟩) ?_ ?_
  · generalize coreD c = cd at e2 ⊢
    simp! [e2]
  refine fin_seq (s1 := ⟨[.sh (coreD c), .sh (.str p.name), .sh p.toD, .sh (sD sts), .no, .no, .no, .no, .no, .no, .no], S0⟩) ?_ ?_
  · generalize coreD c = cd at e3 ⊢
    generalize sD sts = ss at e3 ⊢
    simp! [e3]
  refine fin_seq (s1 := pcS (coreD c) (.str p.name) p.toD (sD sts) .no .no S0 (.no, .no, .no, .no) ((-1, []) :: sts.map fvar)) ?_ ?_
  · generalize coreD c = cd at hvar ⊢
    generalize sD sts = ss at hvar ⊢
    simp! [pcS, f21_c1r, hvar, glob_tb1, neg1, h99]
  refine fin_seq (s1 := pcS (coreD c) (.str p.name) p.toD (sD sts) .no .no (S0 ++ tabC T) (.no, .no, .no, .no) ((-1, []) :: sts.map fvar ++ (mv c p).flatMap diF)) ?_ ?_
  · generalize coreD c = cd at e1 ⊢
    generalize sD sts = ss
    generalize p.toD = pd at e4 ⊢
    generalize tabD c S0.length = td at e1 e4
    generalize (mv c p).flatMap diF = df at e5 hA2 ⊢
    simp! [pcS, e1, e4, e5, hA2]
  refine fin_seq (s1 := pcS (coreD c) (.str p.name) p.toD (sD sts) .no (.own (.L ((flat p.body).map St.toD))) (S0 ++ tabC T) (.no, .no, .no, .no) ((-1, []) :: sts.map fvar ++ (mv c p).flatMap diF)) ?_ ?_
  · generalize coreD c = cd
    generalize sD sts = ss
    simp! [pcS, e6]
  refine fin_seq (s1 := pcS (coreD c) (.str p.name) p.toD (sD sts) .no (.sh (.lst ((flat p.body).map St.toD))) (S0 ++ tabC T) j ((-1, []) :: sts.map fvar ++ (mv c p).flatMap diF ++ (flat p.body).flatMap (stF sts))) (fr_go (ds := (flat p.body).map St.toD) (by simp! [pcS]) hl1) ?_
  refine fin_seq (s1 := pcS (coreD c) (.str p.name) p.toD (sD sts) .no (.sh (.lst ((flat p.body).map St.toD))) (S0 ++ tabC T) j' ((-1, []) :: sts.map fvar ++ (mv c p).flatMap diF ++ (flat p.body).flatMap (stF sts) ++ (flat p.body).flatMap (stE sts))) (fr_go (ds := (flat p.body).map St.toD) (by simp! [pcS]) hl2) ?_
  refine fin_ret (o := false) (d := .tup ((wdl [(-1, [])] (fnd sts (mv c p) (flat p.body) ++ hf)).map fmD)) (s1 := pcS (coreD c) (.str p.name) p.toD (sD sts) .no (.sh (.lst ((flat p.body).map St.toD))) (S0 ++ tabC T) j' ((-1, []) :: sts.map fvar ++ (mv c p).flatMap diF ++ (flat p.body).flatMap (stF sts) ++ (flat p.body).flatMap (stE sts))) ?_ ?_
  · have e8 : ((-1, []) :: sts.map fvar ++ (mv c p).flatMap diF ++ (flat p.body).flatMap (stF sts) ++ (flat p.body).flatMap (stE sts)) = (-1, []) :: fnd sts (mv c p) (flat p.body) := by simp [fnd]
    rw [e8]
    have e9 : (p.hints : List D) = hf.map fmD := P.hn
    have hB : (fnd sts (mv c p) (flat p.body)).length + 1 + hf.length ≤ LIM := by have : LIM = 16777216 := rfl; omega
    have hC2 : hf.length ≤ LIM := lim_le (by omega)
    generalize fnd sts (mv c p) (flat p.body) = ff at e7 hB ⊢
    generalize coreD c = cd
    generalize sD sts = ss
    rw [List.map_cons, List.map_append] at e7
    generalize hR : D.tup ((wdl [(-1, [])] (ff ++ hf)).map fmD) = R at e7 ⊢
    simp! [pcS, e9, hB, hC2, e7]
  · simp only [fin, pcS]
    rw [gc_back hS _ (by simp [unders, D.under, under_fms])]
end K62

set_option Elab.async false
set_option linter.all false
set_option maxRecDepth 100000
set_option maxHeartbeats 4000000
set_option autoImplicit false
/-! k62: what is due, walked. -/
namespace K62
open Z Co
local macro_rules
  | `(tactic| simp! [$ts,*]) => `(tactic| simp [plains, deeps, D.fit, D.plain, D.deep, lim_ble, lim_blt, cut_fromI, cut_toI, ex_set, ex_setT, ex_aug, ex_put, ex_retv, rt_lit, rt_g, rt_pr, rt_sl, rt_mp, rt_mu, rt_tup, rt_lst, rt_call, rt_callv, rt_notV, rt_bopV, rt_ite, rt_cell, rt_kin, rt_kix, rt_comp, rt_dct, ex_retN, ex_ife, ex_brk, ex_cnt, ex_pass, ex_exp, ex_rais, exs_nil, exs_cons, call_eq, glob_eq, kd_eq, atI_zero, atI_1, atI_2, atI_3, atI_4, atI_5, atI_8, wipeZ, backZ, appendC, extendC, popC, insertC, rd_v, rp_v, rp_pr, rd_lit, rd_g, rd_pr, rd_sl, rd_mp, rd_mu, rd_tup, rd_lst, rd_call, rd_callv, rd_notV, rd_bopV, rd_ite, rd_cell, rd_kin, rd_kix, rd_comp, rd_dct, rd_fn, ev, evs, evo, evrs, evt, evtb, evts, evit, evb, readV, Place.get, Place.set, Arg.get, getAll, Res.bind, Res.then, RS.seq, lift, prim, prim1, prim2, binD, cmpD, ix_lst, ix_tup, ix_str, ix_dct, slD, lenP, lenD, intD, negD, bindTo, assign, assigns, fin, der_non, der_bl, der_int, der_str, der_tup, der_lst, der_dct, der_ref, der_scr, der_fn, gc, fit_str, fit_int, D.eqv, truthD, Cell.view, isList, mutC, mrecv, mprim, mprim2, mprim3, augD, toCell, Option.bind, fromF, isiP, isiD, tupleD, listD, seqOf, noX, iterD, isSh, pix0, pix1, pix2, pix3, pix5, pix8, pder, iix0, iix1, ider, sder, eix0, kind_ne, eder, aix0, aix0e, aix1, ader, cder, $ts,*])
theorem lim_le2 {n : Nat} (h : n ≤ 999999) : n ≤ LIM := Nat.le_trans h (by decide)
/-! ### a form's names -/
theorem names_in (k : Nat) (d f2 : D) (S : List Cell) : ∀ (ps : List Pr) (acc : List Wd) (j : Slot × Slot), (acc ++ keysP ps).Nodup → acc.length + ps.length ≤ 64 → ∃ j' : Slot × Slot, forL (fbody (prog tb k) (.tup [.v 3, .v 4]) f33_b1) (ps.map prD) ⟨[.sh d, .own (.L (acc.map .str)), .sh f2, j.1, j.2], S⟩ = .next ⟨[.sh d, .own (.L ((acc ++ keysP ps).map .str)), .sh f2, j'.1, j'.2], S⟩
  | [], acc, j, _, _ => ⟨j, by simp [forL, keysP]⟩
  | p :: ps, acc, j, nd, hl => by
    simp only [List.length_cons] at hl
    have hp : p.1 ∉ acc := fun h => (List.nodup_append.mp nd).2.2 _ h _ (by simp [keysP]) rfl
    have h2 : acc.length < LIM := lim_lt (by omega)
    have hi := in_strs p.1 acc
    obtain ⟨j2, h3⟩ := names_in k d f2 S ps (acc ++ [p.1]) (.sh (.str p.1), .sh (.int p.2)) (by simpa [keysP] using nd) (by simp; omega)
    refine ⟨j2, ?_⟩
    have hb : fbody (prog tb k) (.tup [.v 3, .v 4]) f33_b1 (prD p) ⟨[.sh d, .own (.L (acc.map .str)), .sh f2, j.1, j.2], S⟩ = .next ⟨[.sh d, .own (.L ((acc ++ [p.1]).map .str)), .sh f2, .sh (.str p.1), .sh (.int p.2)], S⟩ := by
      simp! [fbody, f33_b1, prD, hi, hp, h2]
    simp only [List.map_cons, forL, hb]
    rw [h3]
    simp [keysP]
theorem law_names (k : Nat) {U : List Wd} (u : UOk U) {f : Fm} (w : Wf U f) (S : List Cell) : Phi tb (k + 1) 33 [.lst [fmD f]] S = .ok true (.lst ((sortL (keysP f.2)).map .str)) S := by
  have h63 := wf_len u w
  obtain ⟨j, hl⟩ := names_in k (.lst [fmD f]) (fmD f) S f.2 [] (.no, .no) (by simpa [keysP] using wf_nd w) (by simp; omega)
  have hk : (keysP f.2).length < 64 := by simp [keysP]; omega
  rw [phi_succ (fn := f33) rfl rfl (by decide)]
  show fin S.length (execs (prog tb k) f33.body ⟨[.sh (.lst [fmD f]), .no, .no, .no, .no], S⟩) = _
  unfold f33
  refine fin_seq (s1 := ⟨[.sh (.lst [fmD f]), .own (.L []), .no, .no, .no], S⟩) (by simp! []) ?_
  refine fin_seq (s1 := ⟨[.sh (.lst [fmD f]), .own (.L ((keysP f.2).map .str)), .sh (fmD f), j.1, j.2], S⟩) (fr_go (s1 := ⟨[.sh (.lst [fmD f]), .own (.L []), .no, .no, .no], S⟩) (ds := [fmD f]) (by simp! []) ?_) ?_
  · have hb : fbody (prog tb k) (.v 2) f33_b2 (fmD f) ⟨[.sh (.lst [fmD f]), .own (.L []), .no, .no, .no], S⟩ = .next ⟨[.sh (.lst [fmD f]), .own (.L ((keysP f.2).map .str)), .sh (fmD f), j.1, j.2], S⟩ := by
      refine fbody_v (by simp) ?_
      unfold f33_b2
      exact seq_end (fr_go (s1 := ⟨[.sh (.lst [fmD f]), .own (.L []), .sh (fmD f), .no, .no], S⟩) (ds := f.2.map prD) (by simp! [fder, fix1]) (by simpa using hl))
    simp only [forL, hb]
  refine fin_ret (o := true) (d := .lst ((sortL (keysP f.2)).map .str)) (s1 := ⟨[.sh (.lst [fmD f]), .own (.L ((keysP f.2).map .str)), .sh (fmD f), j.1, j.2], S⟩) ?_ ?_
  · simp! [sortedD, strsOf_map, hk]
  · simp! []
theorem allB_map (g : Wd → Bool) : ∀ l : List Wd, allB (l.map fun x => .bl (g x)) = some (l.all g)
  | [] => rfl
  | x :: l => by simp [allB, allB_map g l]
theorem all_perm {g : Wd → Bool} {l m : List Wd} (h : l.Perm m) : l.all g = m.all g := by
  rw [Bool.eq_iff_iff, List.all_eq_true, List.all_eq_true]
  exact ⟨fun z x hx => z x (h.mem_iff.mpr hx), fun z x hx => z x (h.mem_iff.mp hx)⟩
theorem at_all (f : Fm) : (sortL (keysP f.2)).all isAt = atB f := by
  rw [all_perm (sortL_perm _)]
  simp [keysP, atB, Function.comp_def]
/-! ### the state -/
structure DJ where
  a4 : Slot
  a5 : Slot
  a6 : Slot
  a7 : Slot
  a8 : Slot
  a9 : Slot
  a10 : Slot
  a11 : Slot
  a12 : Slot
def dS (d0 : D) (mo sts : List Wd) (S : List Cell) (j15 : Slot) (j : DJ) (acc : List Fm) : Sta := ⟨[.sh d0, .sh (.lst (mo.map .str)), .sh (.lst (sts.map .str)), .own (.L (acc.map fmD)), j.a4, j.a5, j.a6, j.a7, j.a8, j.a9, j.a10, j.a11, j.a12, .no, .no, j15], S⟩
def moF (mo : List Wd) (i : Itm) : List Fm := if i.key ∈ mo then diF i else []
theorem du_item (k : Nat) {U : List Wd} (u : UOk U) (d0 : D) (mo sts : List Wd) (S : List Cell) (j15 : Slot) (i : Itm) (K : KeyOk U i) (j : DJ) (acc : List Fm) (hn : acc.length + (moF mo i).length ≤ 99999) :
    ∃ j', fbody (prog tb (k + 6)) (.v 5) f48_b2 i.toD (dS d0 mo sts S j15 j acc) = .next (dS d0 mo sts S j15 j' (acc ++ moF mo i)) := by
  have e1 := law_key (k + 5) i K.x S
  have e2 := law_var_ok (k + 5) i.key S
  have e3 := law_var_ok (k + 5) (64 :: i.key) S
  have e4 := both_ways (k + 3) u (fvar_wf K.a) (fvar_wf K.b) S
  have b := key_lim i K.x
  have hi := in_strs i.key mo
  refine ⟨{ j with a5 := .sh i.toD }, ?_⟩
  by_cases h : i.key ∈ mo
  · have h3 : acc.length + 2 ≤ LIM := by
      have : LIM = 16777216 := rfl
      simp only [moF, if_pos h, diF, List.length_cons, List.length_nil] at hn
      omega
    simp! [fbody, f48_b2, dS, e1, e2, e3, e4, b, hi, h, h3, moF, diF]
  · simp! [fbody, f48_b2, dS, e1, hi, h, moF]
theorem tm1 : ftimes (-1) (1, []) = (-1, []) := by simp [ftimes, sc]
theorem one0 : D.tup [.int 1, .tup []] = fmD (1, []) := rfl
theorem du_pair (k : Nat) {U is as sts : List Wd} (C : Ctx U is as) (d0 : D) (mo : List Wd) (S : List Cell) (j15 : Slot) (w : Wd) (e f : Ex) (he : inE is as e) (hf : inE is as f) (h1 : dep e ≤ 1) (h2 : dep f ≤ 1) (j : DJ) (acc : List Fm) (hn : acc.length + (cm2 sts e f).length ≤ 99999) :
    ∃ j' : DJ, fbody (prog tb (k + 6)) (.tup [.v 7, .v 8, .v 9]) f48_b4 (.tup [.str w, e.toD, f.toD]) (dS d0 mo sts S j15 j acc) = .next (dS d0 mo sts S j15 j' (acc ++ cm2 sts e f)) := by
  have e1 : Phi tb (k + 6) 45 [e.toD, .lst (sts.map .str)] S = .ok false (oD (pf sts e)) S := law_plainly C (sts_L sts) S 1 (k + 1) e h1 he
  have e2 : Phi tb (k + 6) 45 [f.toD, .lst (sts.map .str)] S = .ok false (oD (pf sts f)) S := law_plainly C (sts_L sts) S 1 (k + 1) f h2 hf
  cases hp : pf sts e with
  | none =>
    rw [hp] at e1
    refine ⟨{ j with a7 := .sh (.str w), a8 := .sh e.toD, a9 := .sh f.toD, a10 := .sh .non, a11 := .sh (oD (pf sts f)) }, ?_⟩
    generalize oD (pf sts f) = of at e2 ⊢
    simp! [fbody, f48_b4, dS, e1, e2, oD, noneN, cm2, hp]
  | some a =>
    rw [hp] at e1
    cases hq : pf sts f with
    | none =>
      rw [hq] at e2
      refine ⟨{ j with a7 := .sh (.str w), a8 := .sh e.toD, a9 := .sh f.toD, a10 := .sh (fmD a), a11 := .sh .non }, ?_⟩
      simp! [fbody, f48_b4, dS, e1, e2, oD, noneN, noneF, fder, cm2, hp, hq]
    | some b =>
      rw [hq] at e2
      have wa := pf_wf C sts e he hp
      have wb := pf_wf C sts f hf hq
      have e3 := both_ways (k + 3) C.u wa wb S
      have h3 : acc.length + 4 ≤ 99999 := by simpa [cm2, hp, hq] using hn
      have l1 : acc.length + 2 ≤ LIM := lim_le2 (by omega)
      have l2 : acc.length + 2 + 2 ≤ LIM := lim_le2 (by omega)
      have l3 : acc.length + 4 ≤ LIM := lim_le2 (by omega)
      let j1 : DJ := { j with a7 := .sh (.str w), a8 := .sh e.toD, a9 := .sh f.toD, a10 := .sh (fmD a), a11 := .sh (fmD b), a12 := .own (.L [fmD (fminus a b), fmD (fminus b a)]) }
      let j2 : DJ := { j1 with a12 := .sh (.lst [fmD (fminus a b), fmD (fminus b a)]) }
      have hc : ev (prog tb (k + 6)) f48_c3 (dS d0 mo sts S j15 j1 acc) = .ok (true, .lst ([fminus a b, fminus b a].map fun g => fmD (fplus g (-1, [])))) (dS d0 mo sts S j15 j2 acc) := by
        unfold f48_c3
        refine ev_compM (P := prog tb (k + 6)) (σ := (dS d0 mo sts S j15 j1 acc).σ) (S := S) (σ1 := (dS d0 mo sts S j15 j2 acc).σ) (S1 := S) [fminus a b, fminus b a] fmD (fun g => fmD (fplus g (-1, []))) rfl (by simp! [dS, j1, j2]) lim_2 fun g hg => ?_
        have wg : Wf U g := by
          rcases List.mem_cons.mp hg with rfl | hg
          · exact fminus_wf wa wb
          · rw [List.mem_singleton.mp hg]
            exact fminus_wf wb wa
        have e5 := law_sum2 (k + 4) C.u (i := -1) (by decide) (by decide) wg (const_wf 1) S
        rw [tm1] at e5
        simp! [cturn, dS, j2, one0, e5]
      refine ⟨j2, ?_⟩
      have s1 : exec (prog tb (k + 6)) (.set 3 (.pr (.bin .Add) [(.pr (.bin .Add) [(.v 3), (.v 12)]), f48_c3])) (dS d0 mo sts S j15 j1 acc) = .next (dS d0 mo sts S j15 j2 (acc ++ cm2 sts e f)) := by
        have : cm2 sts e f = [fminus a b, fminus b a, fplus (fminus a b) (-1, []), fplus (fminus b a) (-1, [])] := by simp [cm2, hp, hq]
        rw [this]
        simp only [dS, j1] at hc ⊢
        simp! [j1, j2, f48_c3r, hc, l1, l2]
      have hstart : execs (prog tb (k + 6)) f48_b4 (dS d0 mo sts S j15 { j with a7 := .sh (.str w), a8 := .sh e.toD, a9 := .sh f.toD } acc) = .next (dS d0 mo sts S j15 j2 (acc ++ cm2 sts e f)) := by
        unfold f48_b4
        refine seq_go (s1 := dS d0 mo sts S j15 { j with a7 := .sh (.str w), a8 := .sh e.toD, a9 := .sh f.toD, a10 := .sh (fmD a) } acc) (by simp! [dS, e1, oD]) ?_
        refine seq_go (s1 := dS d0 mo sts S j15 { j with a7 := .sh (.str w), a8 := .sh e.toD, a9 := .sh f.toD, a10 := .sh (fmD a), a11 := .sh (fmD b) } acc) (by simp! [dS, e2, oD]) ?_
        refine seq_end (exec_if_true (s1 := dS d0 mo sts S j15 { j with a7 := .sh (.str w), a8 := .sh e.toD, a9 := .sh f.toD, a10 := .sh (fmD a), a11 := .sh (fmD b) } acc) (by simp! [dS, noneF, fder]) ?_)
        refine seq_go (s1 := dS d0 mo sts S j15 j1 acc) (by simp! [dS, e3, j1]) (seq_end s1)
      rw [← hstart]
      simp [fbody, assign, assigns, dS]
theorem du_atoms (k : Nat) {U is as sts : List Wd} (C : Ctx U is as) (d0 : D) (mo : List Wd) (S : List Cell) (j15 : Slot) (l : List Cd) (hl : ∀ a ∈ l, lf a ∧ inC is as a) (j : DJ) (acc : List Fm) (hn : acc.length + (l.flatMap (cmF sts)).length ≤ 99999) :
    ∃ j' : DJ, forL (fbody (prog tb (k + 6)) (.tup [.v 7, .v 8, .v 9]) f48_b4) (l.map Cd.toD) (dS d0 mo sts S j15 j acc) = .next (dS d0 mo sts S j15 j' (acc ++ l.flatMap (cmF sts))) := by
  refine forL_appJ (st := fun j acc => dS d0 mo sts S j15 j acc) 99999 l acc j hn fun j acc a ha h => ?_
  obtain ⟨h1, h2⟩ := hl a ha
  cases a with
  | less e f => exact du_pair k C d0 mo S j15 kless e f h2.1 h2.2.1 h2.2.2.1 h2.2.2.2 j acc h
  | same e f => exact du_pair k C d0 mo S j15 ksame e f h2.1 h2.2.1 h2.2.2.1 h2.2.2.2 j acc h
  | not c => cases h1
  | and c d => cases h1
  | or c d => cases h1
theorem du_body (k : Nat) {U is as sts : List Wd} (C : Ctx U is as) (d0 : D) (mo : List Wd) (S : List Cell) (j15 : Slot) (j : DJ) (acc : List Fm) (s : St) (hs : BSt is as s) (hn : acc.length + (stF sts s).length ≤ 99999) :
    ∃ j' : DJ, fbody (prog tb (k + 6)) (.v 6) f48_b5 s.toD (dS d0 mo sts S j15 j acc) = .next (dS d0 mo sts S j15 j' (acc ++ stF sts s)) := by
  cases s with
  | whl c b =>
    have e : Phi tb (k + 6) 46 [c.toD] S = .ok true (.lst ((atoms c).map Cd.toD)) S := law_comps (k + 4) S hs
    obtain ⟨j8, hl⟩ := du_atoms k (sts := sts) C d0 mo S j15 (atoms c) (atoms_in hs) { j with a6 := .sh (St.whl c b).toD } acc hn
    refine ⟨j8, fbody_v (by simp [dS]) ?_⟩
    show execs (prog tb (k + 6)) f48_b5 (dS d0 mo sts S j15 { j with a6 := .sh (St.whl c b).toD } acc) = _
    unfold f48_b5
    exact seq_end (exec_if_true (s1 := dS d0 mo sts S j15 { j with a6 := .sh (St.whl c b).toD } acc) (by simp! [dS, St.toD, in_l2]) (seq_end (fr_go (s1 := dS d0 mo sts S j15 { j with a6 := .sh (St.whl c b).toD } acc) (ds := (atoms c).map Cd.toD) (by simp! [dS, St.toD, e]) hl)))
  | ite c b b2 =>
    have e : Phi tb (k + 6) 46 [c.toD] S = .ok true (.lst ((atoms c).map Cd.toD)) S := law_comps (k + 4) S hs
    obtain ⟨j8, hl⟩ := du_atoms k (sts := sts) C d0 mo S j15 (atoms c) (atoms_in hs) { j with a6 := .sh (St.ite c b b2).toD } acc hn
    refine ⟨j8, fbody_v (by simp [dS]) ?_⟩
    show execs (prog tb (k + 6)) f48_b5 (dS d0 mo sts S j15 { j with a6 := .sh (St.ite c b b2).toD } acc) = _
    unfold f48_b5
    exact seq_end (exec_if_true (s1 := dS d0 mo sts S j15 { j with a6 := .sh (St.ite c b b2).toD } acc) (by simp! [dS, St.toD, in_l2]) (seq_end (fr_go (s1 := dS d0 mo sts S j15 { j with a6 := .sh (St.ite c b b2).toD } acc) (ds := (atoms c).map Cd.toD) (by simp! [dS, St.toD, e]) hl)))
  | set x e => exact ⟨{ j with a6 := .sh (St.set x e).toD }, by simp! [dS, fbody, f48_b5, St.toD, in_l2, stF]⟩
  | store x e f => exact ⟨{ j with a6 := .sh (St.store x e f).toD }, by simp! [dS, fbody, f48_b5, St.toD, in_l2, stF]⟩
  | push x e => exact ⟨{ j with a6 := .sh (St.push x e).toD }, by simp! [dS, fbody, f48_b5, St.toD, in_l2, stF]⟩
  | pop x e => exact ⟨{ j with a6 := .sh (St.pop x e).toD }, by simp! [dS, fbody, f48_b5, St.toD, in_l2, stF]⟩
  | pause => exact ⟨{ j with a6 := .sh St.pause.toD }, by simp! [dS, fbody, f48_b5, St.toD, in_l2, stF]⟩
  | call x e f => exact ⟨{ j with a6 := .sh (St.call x e f).toD }, by simp! [dS, fbody, f48_b5, St.toD, in_l2, stF]⟩
  | give e => exact ⟨{ j with a6 := .sh (St.give e).toD }, by simp! [dS, fbody, f48_b5, St.toD, in_l2, stF]⟩
theorem du_set (k : Nat) {U is as sts : List Wd} (C : Ctx U is as) (hne : ∀ x ∈ U, x ≠ []) (d0 : D) (mo : List Wd) (S : List Cell) (j15 : Slot) (x : Wd) (hx : x ∈ is) (e : Ex) (he : inE is as e) (h1 : dep e ≤ 2) (j : DJ) (acc : List Fm) (hn : acc.length + (seF sts x e).length ≤ 99999) :
    ∃ j' : DJ, fbody (prog tb (k + 6)) (.tup [.v 4, .v 8]) f48_b7 (.tup [.str x, e.toD]) (dS d0 mo sts S j15 j acc) = .next (dS d0 mo sts S j15 j' (acc ++ seF sts x e)) := by
  have e1 : Phi tb (k + 6) 45 [e.toD, .lst (sts.map .str)] S = .ok false (oD (pf sts e)) S := law_plainly C (sts_L sts) S 2 k e h1 he
  have e2 : Phi tb (k + 6) 49 [e.toD, .lst (sts.map .str)] S = .ok false (.bl (stdy sts e)) S := law_steady_ok C (sts_L sts) S 2 (k + 3) e h1 he
  cases hp : pf sts e with
  | none =>
    rw [hp] at e1
    have hs : stdy sts e = false := by
      cases h : stdy sts e with
      | false => rfl
      | true =>
        obtain ⟨f, h2, _⟩ := stdy_pf sts e h
        rw [hp] at h2
        cases h2
    refine ⟨{ j with a4 := .sh (.str x), a8 := .sh e.toD, a10 := .sh .non }, ?_⟩
    simp! [fbody, f48_b7, dS, e1, oD, noneN, seF, hs]
  | some f =>
    rw [hp] at e1
    have wf := pf_wf C sts e he hp
    have e3 := law_names (k + 5) C.u wf S
    let j1 : DJ := { j with a4 := .sh (.str x), a8 := .sh e.toD, a10 := .sh (fmD f) }
    have hsl : (sortL (keysP f.2)).length ≤ LIM := by
      rw [(sortL_perm (keysP f.2)).length_eq]
      simpa [keysP] using wf_lim C.u wf
    have hc : ev (prog tb (k + 6)) f48_c6 (dS d0 mo sts S j15 j1 acc) = .ok (true, .lst ((sortL (keysP f.2)).map fun x => .bl (isAt x))) (dS d0 mo sts S j15 j1 acc) := by
      unfold f48_c6
      refine ev_compM (P := prog tb (k + 6)) (σ := (dS d0 mo sts S j15 j1 acc).σ) (S := S) (σ1 := (dS d0 mo sts S j15 j1 acc).σ) (S1 := S) (sortL (keysP f.2)) D.str (fun x => .bl (isAt x)) rfl (by simp! [dS, j1, e3]) hsl fun y hy => ?_
      have hy2 := (sortL_perm _).mem_iff.mp hy
      obtain ⟨p, hp2, rfl⟩ := List.mem_map.mp hy2
      have hy3 := hne _ (wf.u p hp2)
      cases hq : p.1 with
      | nil => exact absurd hq hy3
      | cons ch r =>
        simp! [cturn, dS, j1, ix_str, isAt]
    have hall : allB ((sortL (keysP f.2)).map fun x => .bl (isAt x)) = some (atB f) := by rw [allB_map, at_all]
    have hset : exec (prog tb (k + 6)) (.set 10 (.call 45 [(.v 8), (.v 2)])) (dS d0 mo sts S j15 { j with a4 := .sh (.str x), a8 := .sh e.toD } acc) = .next (dS d0 mo sts S j15 j1 acc) := by simp! [dS, e1, oD, j1]
    generalize (sortL (keysP f.2)).map (fun x => D.bl (isAt x)) = L at hc hall
    cases hs : stdy sts e with
    | false =>
      rw [hs] at e2
      have hev : evt (prog tb (k + 6)) (.bop true [(.isN true (.v 10)), (.e (.pr .allOf [f48_c6])), (.e (.call 49 [(.v 8), (.v 2)]))]) (dS d0 mo sts S j15 j1 acc) = .ok false (dS d0 mo sts S j15 j1 acc) := by
        cases hb : atB f with
        | false =>
          rw [hb] at hall
          simp only [dS, j1] at hc ⊢
          simp! [noneF, fder, f48_c6r, hc, allD, hall, e2]
        | true =>
          rw [hb] at hall
          simp only [dS, j1] at hc ⊢
          simp! [noneF, fder, f48_c6r, hc, allD, hall, e2]
      refine ⟨j1, ?_⟩
      have : execs (prog tb (k + 6)) f48_b7 (dS d0 mo sts S j15 { j with a4 := .sh (.str x), a8 := .sh e.toD } acc) = .next (dS d0 mo sts S j15 j1 acc) := by
        unfold f48_b7
        exact seq_go hset (seq_end (exec_if_false hev exs_nil))
      have h0 : seF sts x e = [] := by simp [seF, hs]
      rw [h0, List.append_nil, ← this]
      simp [fbody, assign, assigns, dS]
    | true =>
      rw [hs] at e2
      obtain ⟨f', hf', hat⟩ := stdy_pf sts e hs
      rw [hp] at hf'
      cases hf'
      rw [hat] at hall
      have hev : evt (prog tb (k + 6)) (.bop true [(.isN true (.v 10)), (.e (.pr .allOf [f48_c6])), (.e (.call 49 [(.v 8), (.v 2)]))]) (dS d0 mo sts S j15 j1 acc) = .ok true (dS d0 mo sts S j15 j1 acc) := by
        simp only [dS, j1] at hc ⊢
        simp! [noneF, fder, f48_c6r, hc, allD, hall, e2]
      have h0 : seF sts x e = [fminus (fvar x) f, fminus f (fvar x)] := by simp [seF, hs, hp]
      rw [h0] at hn ⊢
      have l1 : acc.length + 2 ≤ LIM := lim_le2 (by simp only [List.length_cons, List.length_nil] at hn; omega)
      have e4 := law_var_ok (k + 5) x S
      have e5 := both_ways (k + 3) C.u (fvar_wf (C.i1 x hx).2.1) wf S
      refine ⟨j1, ?_⟩
      have : execs (prog tb (k + 6)) f48_b7 (dS d0 mo sts S j15 { j with a4 := .sh (.str x), a8 := .sh e.toD } acc) = .next (dS d0 mo sts S j15 j1 (acc ++ [fminus (fvar x) f, fminus f (fvar x)])) := by
        unfold f48_b7
        refine seq_go hset (seq_end (exec_if_true hev (seq_end ?_)))
        simp! [dS, j1, e4, e5, l1]
      rw [← this]
      simp [fbody, assign, assigns, dS]
theorem du_body2 (k : Nat) {U is as sts : List Wd} (C : Ctx U is as) (hne : ∀ x ∈ U, x ≠ []) (d0 : D) (mo : List Wd) (S : List Cell) (j15 : Slot) (j : DJ) (acc : List Fm) (s : St) (hs : BSt is as s) (hn : acc.length + (stE sts s).length ≤ 99999) :
    ∃ j' : DJ, fbody (prog tb (k + 6)) (.v 6) f48_b8 s.toD (dS d0 mo sts S j15 j acc) = .next (dS d0 mo sts S j15 j' (acc ++ stE sts s)) := by
  cases s with
  | set x e =>
    obtain ⟨j8, hl⟩ := du_set k (sts := sts) C hne d0 mo S j15 x hs.1 e hs.2.1 hs.2.2 { j with a6 := .sh (St.set x e).toD } acc hn
    refine ⟨j8, fbody_v (by simp [dS]) ?_⟩
    show execs (prog tb (k + 6)) f48_b8 (dS d0 mo sts S j15 { j with a6 := .sh (St.set x e).toD } acc) = _
    unfold f48_b8
    exact seq_end (exec_if_true (s1 := dS d0 mo sts S j15 { j with a6 := .sh (St.set x e).toD } acc) (by simp! [dS, St.toD]) (seq_end (fr_go (s1 := dS d0 mo sts S j15 { j with a6 := .sh (St.set x e).toD } acc) (ds := [.tup [.str x, e.toD]]) (by simp! [dS, St.toD]) (by simp only [forL, hl]; rfl))))
  | whl c b => exact ⟨{ j with a6 := .sh (St.whl c b).toD }, by simp! [dS, fbody, f48_b8, St.toD, stE]⟩
  | ite c b b2 => exact ⟨{ j with a6 := .sh (St.ite c b b2).toD }, by simp! [dS, fbody, f48_b8, St.toD, stE]⟩
  | store x e f => exact ⟨{ j with a6 := .sh (St.store x e f).toD }, by simp! [dS, fbody, f48_b8, St.toD, stE]⟩
  | push x e => exact ⟨{ j with a6 := .sh (St.push x e).toD }, by simp! [dS, fbody, f48_b8, St.toD, stE]⟩
  | pop x e => exact ⟨{ j with a6 := .sh (St.pop x e).toD }, by simp! [dS, fbody, f48_b8, St.toD, stE]⟩
  | pause => exact ⟨{ j with a6 := .sh St.pause.toD }, by simp! [dS, fbody, f48_b8, St.toD, stE]⟩
  | call x e f => exact ⟨{ j with a6 := .sh (St.call x e f).toD }, by simp! [dS, fbody, f48_b8, St.toD, stE]⟩
  | give e => exact ⟨{ j with a6 := .sh (St.give e).toD }, by simp! [dS, fbody, f48_b8, St.toD, stE]⟩
end K62

set_option Elab.async false
set_option linter.all false
set_option maxRecDepth 100000
set_option maxHeartbeats 4000000
set_option autoImplicit false
/-! k62: what is due; hints. -/
namespace K62
open Z Co
local macro_rules
  | `(tactic| simp! [$ts,*]) => `(tactic| simp [plains, deeps, D.fit, D.plain, D.deep, lim_ble, lim_blt, cut_fromI, cut_toI, ex_set, ex_setT, ex_aug, ex_put, ex_retv, rt_lit, rt_g, rt_pr, rt_sl, rt_mp, rt_mu, rt_tup, rt_lst, rt_call, rt_callv, rt_notV, rt_bopV, rt_ite, rt_cell, rt_kin, rt_kix, rt_comp, rt_dct, ex_retN, ex_ife, ex_brk, ex_cnt, ex_pass, ex_exp, ex_rais, exs_nil, exs_cons, call_eq, glob_eq, kd_eq, atI_zero, atI_1, atI_2, atI_3, atI_4, atI_5, atI_8, wipeZ, backZ, appendC, extendC, popC, insertC, rd_v, rp_v, rp_pr, rd_lit, rd_g, rd_pr, rd_sl, rd_mp, rd_mu, rd_tup, rd_lst, rd_call, rd_callv, rd_notV, rd_bopV, rd_ite, rd_cell, rd_kin, rd_kix, rd_comp, rd_dct, rd_fn, ev, evs, evo, evrs, evt, evtb, evts, evit, evb, readV, Place.get, Place.set, Arg.get, getAll, Res.bind, Res.then, RS.seq, lift, prim, prim1, prim2, binD, cmpD, ix_lst, ix_tup, ix_str, ix_dct, slD, lenP, lenD, intD, negD, bindTo, assign, assigns, fin, der_non, der_bl, der_int, der_str, der_tup, der_lst, der_dct, der_ref, der_scr, der_fn, gc, fit_str, fit_int, D.eqv, truthD, Cell.view, isList, mutC, mrecv, mprim, mprim2, mprim3, augD, toCell, Option.bind, fromF, isiP, isiD, tupleD, listD, seqOf, noX, iterD, isSh, pix0, pix1, pix2, pix3, pix5, pix8, pder, iix0, iix1, ider, sder, eix0, kind_ne, eder, aix0, aix0e, aix1, ader, cder, $ts,*])
theorem due_loop (k : Nat) (d0 : D) (mo sts : List Wd) (S : List Cell) (found : List Fm) : ∀ (fs acc : List Fm) (j : DJ), acc.length + fs.length ≤ LIM → ∃ j' : DJ, forL (fbody (prog tb k) (.v 9) f48_b9) (fs.map fmD) (dS d0 mo sts S (.own (.L (acc.map fmD))) j found) = .next (dS d0 mo sts S (.own (.L ((wdl acc fs).map fmD))) j' found)
  | [], acc, j, _ => ⟨j, by simp [forL, wdl]⟩
  | f :: fs, acc, j, hl => by
    simp only [List.length_cons] at hl
    have hi := in_fms f acc
    have h2 : acc.length < LIM := by omega
    have hs : fbody (prog tb k) (.v 9) f48_b9 (fmD f) (dS d0 mo sts S (.own (.L (acc.map fmD))) j found) = .next (dS d0 mo sts S (.own (.L ((if f.2 ≠ [] ∧ f ∉ acc then acc ++ [f] else acc).map fmD))) { j with a9 := .sh (fmD f) } found) := by

      have p1 := plain_prs f.2
      have p2 : deeps (f.2.map prD) ≤ 63 := by have := deep_prs f.2; omega
      have p3 : eqvs (f.2.map prD) [] = decide (f.2 = []) := eqvs_pr f.2 []
      have p0 : eqvs [] [] = true := rfl
      by_cases h0 : f.2 = []
      · simp! [fbody, f48_b9, dS, fder, fix1, h0, hi, p0]
      · by_cases h1 : f ∈ acc
        · simp! [fbody, f48_b9, dS, fder, fix1, h0, hi, h1, p1, p2, p3]
        · simp! [fbody, f48_b9, dS, fder, fix1, h0, hi, h1, h2, p1, p2, p3]
    obtain ⟨j2, h3⟩ := due_loop k d0 mo sts S found fs (if f.2 ≠ [] ∧ f ∉ acc then acc ++ [f] else acc) { j with a9 := .sh (fmD f) } (by
      split
      · simp only [List.length_append, List.length_cons, List.length_nil]; omega
      · omega)
    refine ⟨j2, ?_⟩
    simp only [List.map_cons, forL, hs]
    exact h3
theorem mo_filter (mo : List Wd) : ∀ l : List Itm, l.flatMap (moF mo) = (l.filter fun i => decide (i.key ∈ mo)).flatMap diF
  | [] => rfl
  | i :: l => by
    by_cases h : i.key ∈ mo
    · simp [moF, h, mo_filter mo l]
    · simp [moF, h, mo_filter mo l]
theorem wdl_skip (f0 : Fm) (h : f0.2 = []) (acc fs : List Fm) : wdl acc (f0 :: fs) = wdl acc fs := by simp [wdl, h]
theorem law_due (k : Nat) {c : List Proc} {U is as : List Wd} {p : Proc} {hf : List Fm} (g : GProc c p) (P : PCtx U is as p hf) (hne : ∀ x ∈ U, x ≠ []) (mo : List Wd) (S : List Cell) (M : List Itm) (hM : (p.items.filter fun i => decide (i.key ∈ mo)) = M) :
    Phi tb (k + 7) 48 [p.toD, .lst (mo.map .str)] S = .ok false (.tup ((wdl [(-1, [])] (fnd ((M ++ p.places).map Itm.key) M (flat p.body) ++ hf)).map fmD)) S := by
  have e1 := law_states (k + 4) g mo S
  have e2 := lsts (k + 3) g S
  rw [hM] at e1
  have hml : M.length ≤ 3 := by rw [← hM]; exact Nat.le_trans (List.length_filter_le _ _) g.il
  have e3 : ((M ++ p.places).map fun i => D.str i.key) = ((M ++ p.places).map Itm.key).map D.str := by rw [List.map_map]; rfl
  rw [e3] at e1
  have hst : ((M ++ p.places).map Itm.key).length ≤ 12 := by
    rw [List.length_map, List.length_append]
    have := g.pl
    omega
  have hd : (M.flatMap diF).length ≤ 2 * M.length := flat_len fun i _ => by simp [diF]
  generalize hsts : (M ++ p.places).map Itm.key = sts at *
  have hf1 : ((flat p.body).flatMap (stF sts)).length ≤ 8 * (flat p.body).length := flat_len fun s hs => stF_len _ (P.st s hs)
  have hf2 : ((flat p.body).flatMap (stE sts)).length ≤ 8 * (flat p.body).length := flat_len fun s hs => stE_len _ s
  have hb := g.ln
  have hhl := P.hl
  have hmo : p.items.flatMap (moF mo) = M.flatMap diF := by rw [mo_filter, hM]
  let z : DJ := ⟨.no, .no, .no, .no, .no, .no, .no, .no, .no⟩
  have hvar : ev (prog tb (k + 6)) f48_c1 ⟨[.sh p.toD, .sh (.lst (mo.map .str)), .own (.L (sts.map .str)), .no, .no, .no, .no, .no, .no, .no, .no, .no, .no, .no, .no, .no], S⟩ = .ok (true, .lst ((sts.map fvar).map fmD)) ⟨[.sh p.toD, .sh (.lst (mo.map .str)), .sh (.lst (sts.map .str)), .no, .no, .no, .no, .no, .no, .no, .no, .no, .no, .no, .no, .no], S⟩ := by
    unfold f48_c1
    refine (ev_compM (σ1 := [.sh p.toD, .sh (.lst (mo.map .str)), .sh (.lst (sts.map .str)), .no, .no, .no, .no, .no, .no, .no, .no, .no, .no, .no, .no, .no]) (S1 := S) sts D.str (fun x => fmD (fvar x)) rfl (by simp! []) (lim_le (by omega)) fun x hx => ?_).trans (by rw [List.map_map]; rfl)
    have e := law_var_ok (k + 5) x S
    simp! [cturn, e]
  obtain ⟨j1, l1⟩ := forL_appJ (body := fbody (prog tb (k + 6)) (.v 5) f48_b2) (toD := Itm.toD) (st := fun j acc => dS p.toD mo sts S .no j acc) (f := moF mo) 99999 p.items ((-1, []) :: sts.map fvar) z (by rw [hmo]; simp only [List.length_append, List.length_cons, List.length_map]; omega) fun j acc i hi h => du_item k P.C.u p.toD mo sts S .no i (P.ks i (List.mem_append_left _ hi)) j acc h
  rw [hmo] at l1
  obtain ⟨j2, l2⟩ := forL_appJ (body := fbody (prog tb (k + 6)) (.v 6) f48_b5) (toD := St.toD) (st := fun j acc => dS p.toD mo sts S .no j acc) (f := stF sts) 99999 (flat p.body) ((-1, []) :: sts.map fvar ++ M.flatMap diF) j1 (by simp only [List.length_append, List.length_cons, List.length_map]; omega) fun j acc s hs h => du_body k P.C p.toD mo S .no j acc s (P.st s hs) h
  obtain ⟨j3, l3⟩ := forL_appJ (body := fbody (prog tb (k + 6)) (.v 6) f48_b8) (toD := St.toD) (st := fun j acc => dS p.toD mo sts S .no j acc) (f := stE sts) 99999 (flat p.body) ((-1, []) :: sts.map fvar ++ M.flatMap diF ++ (flat p.body).flatMap (stF sts)) j2 (by simp only [List.length_append, List.length_cons, List.length_map]; omega) fun j acc s hs h => du_body2 k P.C hne p.toD mo S .no j acc s (P.st s hs) h
  have e8 : ((-1, []) :: sts.map fvar ++ M.flatMap diF ++ (flat p.body).flatMap (stF sts) ++ (flat p.body).flatMap (stE sts)) = (-1, []) :: fnd sts M (flat p.body) := by simp [fnd]
  have hfl : (fnd sts M (flat p.body)).length ≤ 99000 := by
    unfold fnd
    simp only [List.length_append, List.length_map]
    omega
  have hC2 : hf.length ≤ LIM := lim_le (by omega)
  rw [e8] at l3
  generalize hF : fnd sts M (flat p.body) = ff at *
  have hB : ff.length + 1 + hf.length ≤ LIM := lim_le2 (by omega)
  obtain ⟨j4, l4⟩ := due_loop (k + 6) p.toD mo sts S ((-1, []) :: ff) ((-1, []) :: ff ++ hf) [(-1, [])] j3 (lim_le2 (by simp only [List.length_append, List.length_cons, List.length_nil]; omega))
  have hw : wdl [(-1, [])] ((-1, []) :: ff ++ hf) = wdl [(-1, [])] (ff ++ hf) := wdl_skip _ rfl _ _
  rw [hw] at l4
  have hwl : (wdl [(-1, [])] (ff ++ hf)).length ≤ LIM := Nat.le_trans (wdl_len _ _) (lim_le2 (by simp only [List.length_append, List.length_cons, List.length_nil]; omega))
  have h99 : 1 + sts.length ≤ LIM := lim_le (by omega)
  have e9 : (p.hints : List D) = hf.map fmD := P.hn
  rw [phi_succ (fn := f48) rfl rfl (by decide)]
  show fin S.length (execs (prog tb (k + 6)) f48.body ⟨[.sh p.toD, .sh (.lst (mo.map .str)), .no, .no, .no, .no, .no, .no, .no, .no, .no, .no, .no, .no, .no, .no], S⟩) = _
  unfold f48
  refine fin_seq (s1 := ⟨[.sh p.toD, .sh (.lst (mo.map .str)), .own (.L (sts.map .str)), .no, .no, .no, .no, .no, .no, .no, .no, .no, .no, .no, .no, .no], S⟩) (by simp! [e1]) ?_
  refine fin_seq (s1 := dS p.toD mo sts S .no z ((-1, []) :: sts.map fvar)) (by simp! [f48_c1r, hvar, dS, z, neg1, h99]) ?_
  refine fin_seq (s1 := dS p.toD mo sts S .no j1 ((-1, []) :: sts.map fvar ++ M.flatMap diF)) (fr_go (s1 := dS p.toD mo sts S .no z ((-1, []) :: sts.map fvar)) (ds := p.items.map Itm.toD) (by simp! [dS]) l1) ?_
  refine fin_seq (s1 := dS p.toD mo sts S .no j2 ((-1, []) :: sts.map fvar ++ M.flatMap diF ++ (flat p.body).flatMap (stF sts))) (fr_go (s1 := dS p.toD mo sts S .no j1 ((-1, []) :: sts.map fvar ++ M.flatMap diF)) (ds := (flat p.body).map St.toD) (by simp! [dS, e2]) l2) ?_
  refine fin_seq (s1 := dS p.toD mo sts S .no j3 ((-1, []) :: ff)) (fr_go (s1 := dS p.toD mo sts S .no j2 ((-1, []) :: sts.map fvar ++ M.flatMap diF ++ (flat p.body).flatMap (stF sts))) (ds := (flat p.body).map St.toD) (by simp! [dS, e2]) l3) ?_
  refine fin_seq (s1 := dS p.toD mo sts S (.own (.L ([((-1 : Int), ([] : List Pr))].map fmD))) j3 ((-1, []) :: ff)) (by simp! [dS, neg1]) ?_
  refine fin_seq (s1 := dS p.toD mo sts S (.own (.L ((wdl [(-1, [])] (ff ++ hf)).map fmD))) j4 ((-1, []) :: ff)) (fr_go (s1 := dS p.toD mo sts S (.own (.L ([((-1 : Int), ([] : List Pr))].map fmD))) j3 ((-1, []) :: ff)) (ds := ((-1, []) :: ff ++ hf).map fmD) (by simp! [dS, e9, hB, hC2]) l4) ?_
  refine fin_ret (o := false) (d := .tup ((wdl [(-1, [])] (ff ++ hf)).map fmD)) (s1 := dS p.toD mo sts S (.own (.L ((wdl [(-1, [])] (ff ++ hf)).map fmD))) j4 ((-1, []) :: ff)) ?_ ?_
  · simp! [dS, hwl]
  · simp! [dS]
end K62

set_option Elab.async false
set_option linter.all false
set_option maxRecDepth 100000
set_option maxHeartbeats 4000000
set_option autoImplicit false
/-! k62: hints that are drawn. -/
namespace K62
open Z Co
local macro_rules
  | `(tactic| simp! [$ts,*]) => `(tactic| simp [plains, deeps, D.fit, D.plain, D.deep, lim_ble, lim_blt, cut_fromI, cut_toI, ex_set, ex_setT, ex_aug, ex_put, ex_retv, rt_lit, rt_g, rt_pr, rt_sl, rt_mp, rt_mu, rt_tup, rt_lst, rt_call, rt_callv, rt_notV, rt_bopV, rt_ite, rt_cell, rt_kin, rt_kix, rt_comp, rt_dct, ex_retN, ex_ife, ex_brk, ex_cnt, ex_pass, ex_exp, ex_rais, exs_nil, exs_cons, call_eq, glob_eq, kd_eq, atI_zero, atI_1, atI_2, atI_3, atI_4, atI_5, atI_8, wipeZ, backZ, appendC, extendC, popC, insertC, rd_v, rp_v, rp_pr, rd_lit, rd_g, rd_pr, rd_sl, rd_mp, rd_mu, rd_tup, rd_lst, rd_call, rd_callv, rd_notV, rd_bopV, rd_ite, rd_cell, rd_kin, rd_kix, rd_comp, rd_dct, rd_fn, ev, evs, evo, evrs, evt, evtb, evts, evit, evb, readV, Place.get, Place.set, Arg.get, getAll, Res.bind, Res.then, RS.seq, lift, prim, prim1, prim2, binD, cmpD, ix_lst, ix_tup, ix_str, ix_dct, slD, lenP, lenD, intD, negD, bindTo, assign, assigns, fin, der_non, der_bl, der_int, der_str, der_tup, der_lst, der_dct, der_ref, der_scr, der_fn, gc, fit_str, fit_int, D.eqv, truthD, Cell.view, isList, mutC, mrecv, mprim, mprim2, mprim3, augD, toCell, Option.bind, fromF, isiP, isiD, tupleD, listD, seqOf, noX, iterD, isSh, pix0, pix1, pix2, pix3, pix5, pix8, pder, iix0, iix1, ider, sder, eix0, kind_ne, eder, aix0, aix0e, aix1, ader, cder, $ts,*])
def hz (pd md : D) (z3 : Slot) (acc : List Fm) (z6 z7 : Slot) (st : DS) : Sta := ⟨[.sh (.ref 0), .sh pd, .sh md, z3, .no, .own (.L (acc.map fmD)), z6, z7, .no], [st.cell]⟩
def hcσ (pd md : D) (ns : List Wd) (acc : List Fm) (z6 z7 : Slot) : List Slot := [.sh (.ref 0), .sh pd, .sh md, .sh (.lst (ns.map .str)), .no, .own (.L (acc.map fmD)), z6, z7, .no]
theorem hint_comp (k : Nat) {U : List Wd} (pd md : D) (ns : List Wd) (ac : List Fm) (z6 z7 : Slot) : ∀ (xs : List Wd) (acc : List Pr) (st : DS), (∀ x ∈ xs, x ∈ U) → acc.length + xs.length ≤ 999 →
    ∃ (ps : List Pr) (st' : DS), inU U ps ∧ ps.length ≤ xs.length ∧ compL (cturn (prog tb (k + 1)) (.v 8) [8] [(.cmp .Eq (.call 24 [(.v 0), (.lit (.int 3))]) (.lit (.int 0)))] (.tup [(.v 8), (.pr (.bin .Sub) [(.call 24 [(.v 0), (.lit (.int 3))]), (.lit (.int 1))])])) (xs.map .str) (acc.map prD) ⟨hcσ pd md ns ac z6 z7, [st.cell]⟩ = .ok ((acc ++ ps).map prD) ⟨hcσ pd md ns ac z6 z7, [st'.cell]⟩
  | [], acc, st, _, _ => ⟨[], st, fun p hp => (by cases hp), Nat.le_refl _, by simp [compL]⟩
  | x :: xs, acc, st, hx, hl => by
    simp only [List.length_cons] at hl
    obtain ⟨v, st1, hv, e1⟩ := drawI k st [] 3 (by decide) (by decide)
    have hL : (acc.map prD).length < LIM := lim_lt (by rw [List.length_map]; omega)
    by_cases h0 : (v : Int) = 0
    · obtain ⟨w, st2, hw, e2⟩ := drawI k st1 [] 3 (by decide) (by decide)
      obtain ⟨ps, st3, h1, h2, h3⟩ := hint_comp k (U := U) pd md ns ac z6 z7 xs (acc ++ [(x, (w : Int) - 1)]) st2 (fun y hy => hx y (List.mem_cons_of_mem _ hy)) (by simp; omega)
      refine ⟨(x, (w : Int) - 1) :: ps, st3, fun p hp => (List.mem_cons.mp hp).elim (fun e => by rw [e]; exact hx x List.mem_cons_self) (h1 p), by simp only [List.length_cons]; omega, ?_⟩
      have ht : cturn (prog tb (k + 1)) (.v 8) [8] [(.cmp .Eq (.call 24 [(.v 0), (.lit (.int 3))]) (.lit (.int 0)))] (.tup [(.v 8), (.pr (.bin .Sub) [(.call 24 [(.v 0), (.lit (.int 3))]), (.lit (.int 1))])]) (.str x) ⟨hcσ pd md ns ac z6 z7, [st.cell]⟩ = .ok (some (prD (x, (w : Int) - 1))) ⟨hcσ pd md ns ac z6 z7, [st2.cell]⟩ := by
        generalize (v : Int) = vv at e1 h0
        generalize (w : Int) = ww at e2 ⊢
        subst h0
        simp! [cturn, hcσ, e1, e2, prD]
      simp only [List.map_cons, compL, ht, Res.bind]
      rw [if_pos hL]
      have ea : acc.map prD ++ [prD (x, (w : Int) - 1)] = (acc ++ [(x, (w : Int) - 1)]).map prD := by simp
      rw [ea, h3]
      simp
    · obtain ⟨ps, st3, h1, h2, h3⟩ := hint_comp k (U := U) pd md ns ac z6 z7 xs acc st1 (fun y hy => hx y (List.mem_cons_of_mem _ hy)) (by omega)
      refine ⟨ps, st3, h1, by simp only [List.length_cons]; omega, ?_⟩
      have ht : cturn (prog tb (k + 1)) (.v 8) [8] [(.cmp .Eq (.call 24 [(.v 0), (.lit (.int 3))]) (.lit (.int 0)))] (.tup [(.v 8), (.pr (.bin .Sub) [(.call 24 [(.v 0), (.lit (.int 3))]), (.lit (.int 1))])]) (.str x) ⟨hcσ pd md ns ac z6 z7, [st.cell]⟩ = .ok none ⟨hcσ pd md ns ac z6 z7, [st1.cell]⟩ := by
        generalize (v : Int) = vv at e1 h0
        simp! [cturn, hcσ, e1, h0]
      simp only [List.map_cons, compL, ht, Res.bind]
      exact h3
theorem hint_turn (k : Nat) {U : List Wd} (u : UOk U) (pd md : D) (ns : List Wd) (hN : ∀ x ∈ ns, x ∈ U) (hl : ns.length ≤ 99) (z3 : Slot) (h3 : z3 = .own (.L (ns.map .str)) ∨ z3 = .sh (.lst (ns.map .str))) (acc : List Fm) (ha : acc.length ≤ 99) (z6 z7 : Slot) (st : DS) (d : D) :
    ∃ (z7' : Slot) (fs : List Fm) (st' : DS), (∀ f ∈ fs, Wf U f) ∧ fs.length ≤ 2 ∧ fbody (prog tb (k + 1)) (.v 6) f50_b3 d (hz pd md z3 acc z6 z7 st) = .next (hz pd md (.sh (.lst (ns.map .str))) (acc ++ fs) (.sh d) z7' st') := by
  obtain ⟨v, st1, hv, e1⟩ := drawI k st [] 5 (by decide) (by decide)
  obtain ⟨ps, st2, hp, hpl, e2⟩ := hint_comp k (U := U) pd md ns acc (.sh d) z7 ns [] st1 hN (by simp; omega)
  obtain ⟨w, st3, hw, e4⟩ := drawI k st2 [] 4 (by decide) (by decide)
  have hc : ev (prog tb (k + 1)) f50_c2 (hz pd md z3 acc (.sh d) z7 st1) = .ok (true, .lst (ps.map prD)) (hz pd md (.sh (.lst (ns.map .str))) acc (.sh d) z7 st2) := by
    unfold f50_c2
    refine (ev_comp (s1 := hz pd md (.sh (.lst (ns.map .str))) acc (.sh d) z7 st1) (s5 := ⟨hcσ pd md ns acc (.sh d) z7, [st2.cell]⟩) (ds := ns.map .str) (r := ps.map prD) (by rcases h3 with rfl | rfl <;> simp! [hz]) (by simp [isSh, hz]) (by simpa [wipeZ, hz, hcσ] using e2)).trans (by simp [backZ, hz, hcσ])
  have e3 := law_form_ok k u ((v : Int) - 2) (.lst (ps.map prD)) ps (.inr rfl) hp [st2.cell]
  have wf : Wf U ((v : Int) - 2, nrm ps) := nrm_wf _ hp
  let f : Fm := ((v : Int) - 2, nrm ps)
  have l1 : acc.length + 1 ≤ LIM := lim_le (by omega)
  have l2 : acc.length + 2 ≤ LIM := lim_le (by omega)
  have oneLim : (1 : Int) ≤ (LIM : Int) := oneL
  have twoLim : (2 : Int) ≤ (LIM : Int) := by decide
  have s1 : exec (prog tb (k + 1)) (.set 7 (.call 30 [(.pr (.bin .Sub) [(.call 24 [(.v 0), (.lit (.int 5))]), (.lit (.int 2))]), f50_c2])) (hz pd md z3 acc (.sh d) z7 st) = .next (hz pd md (.sh (.lst (ns.map .str))) acc (.sh d) (.sh (fmD f)) st2) := by
    show _ = RS.next (hz pd md (.sh (.lst (ns.map .str))) acc (.sh d) (.sh (fmD ((v : Int) - 2, nrm ps))) st2)
    generalize (v : Int) = vv at e1 e3 ⊢
    simp only [hz] at hc ⊢
    simp! [e1, hc, e3]
  refine ⟨.sh (fmD f), if (w : Int) = 0 then [f, f] else [f], st3, ?_, ?_, fbody_v (by simp [hz]) ?_⟩
  · intro g hg
    split at hg
    · simp only [List.mem_cons, List.not_mem_nil, or_false, or_self] at hg
      exact hg ▸ wf
    · simp only [List.mem_cons, List.not_mem_nil, or_false] at hg
      exact hg ▸ wf
  · split <;> simp
  · show execs (prog tb (k + 1)) f50_b3 (hz pd md z3 acc (.sh d) z7 st) = _
    unfold f50_b3
    refine seq_go s1 (seq_end ?_)
    generalize f = ff
    generalize (w : Int) = ww at e4 ⊢
    by_cases h0 : ww = 0
    · subst h0
      simp! [hz, e4, b2i, l1, l2, fder, oneLim, twoLim]
    · simp! [hz, e4, b2i, h0, l1, l2, fder, oneLim, twoLim]
end K62

set_option Elab.async false
set_option linter.all false
set_option maxRecDepth 100000
set_option maxHeartbeats 4000000
set_option autoImplicit false
/-! k62: a procedure with hints. -/
namespace K62
open Z Co
local macro_rules
  | `(tactic| simp! [$ts,*]) => `(tactic| simp [plains, deeps, D.fit, D.plain, D.deep, lim_ble, lim_blt, cut_fromI, cut_toI, ex_set, ex_setT, ex_aug, ex_put, ex_retv, rt_lit, rt_g, rt_pr, rt_sl, rt_mp, rt_mu, rt_tup, rt_lst, rt_call, rt_callv, rt_notV, rt_bopV, rt_ite, rt_cell, rt_kin, rt_kix, rt_comp, rt_dct, ex_retN, ex_ife, ex_brk, ex_cnt, ex_pass, ex_exp, ex_rais, exs_nil, exs_cons, call_eq, glob_eq, kd_eq, atI_zero, atI_1, atI_2, atI_3, atI_4, atI_5, atI_8, wipeZ, backZ, appendC, extendC, popC, insertC, rd_v, rp_v, rp_pr, rd_lit, rd_g, rd_pr, rd_sl, rd_mp, rd_mu, rd_tup, rd_lst, rd_call, rd_callv, rd_notV, rd_bopV, rd_ite, rd_cell, rd_kin, rd_kix, rd_comp, rd_dct, rd_fn, ev, evs, evo, evrs, evt, evtb, evts, evit, evb, readV, Place.get, Place.set, Arg.get, getAll, Res.bind, Res.then, RS.seq, lift, prim, prim1, prim2, binD, cmpD, ix_lst, ix_tup, ix_str, ix_dct, slD, lenP, lenD, intD, negD, bindTo, assign, assigns, fin, der_non, der_bl, der_int, der_str, der_tup, der_lst, der_dct, der_ref, der_scr, der_fn, gc, fit_str, fit_int, D.eqv, truthD, Cell.view, isList, mutC, mrecv, mprim, mprim2, mprim3, augD, toCell, Option.bind, fromF, isiP, isiD, tupleD, listD, seqOf, noX, iterD, isSh, pix0, pix1, pix2, pix3, pix5, pix8, pder, iix0, iix1, ider, sder, eix0, kind_ne, eder, aix0, aix0e, aix1, ader, cder, $ts,*])
def hnt (p : Proc) (hf : List Fm) : Proc := ⟨p.name, p.items, p.results, p.places, hf.map fmD, p.body⟩
theorem hint_loop (k : Nat) {U : List Wd} (u : UOk U) (pd md : D) (ns : List Wd) (hN : ∀ x ∈ ns, x ∈ U) (hl : ns.length ≤ 99) : ∀ (xs : List Nat) (z3 : Slot) (acc : List Fm) (z6 z7 : Slot) (st : DS), (z3 = .own (.L (ns.map .str)) ∨ z3 = .sh (.lst (ns.map .str))) → acc.length + 2 * xs.length ≤ 99 →
    ∃ (z3' z6' z7' : Slot) (fs : List Fm) (st' : DS), (∀ f ∈ fs, Wf U f) ∧ fs.length ≤ 2 * xs.length ∧ forL (fbody (prog tb (k + 1)) (.v 6) f50_b3) (xs.map fun (i : Nat) => D.int i) (hz pd md z3 acc z6 z7 st) = .next (hz pd md z3' (acc ++ fs) z6' z7' st')
  | [], z3, acc, z6, z7, st, _, _ => ⟨z3, z6, z7, [], st, fun f hf => (by cases hf), Nat.le_refl _, by simp [forL]⟩
  | x :: xs, z3, acc, z6, z7, st, h3, ha => by
    simp only [List.length_cons] at ha
    obtain ⟨y7, fs, st1, h1, h2, e1⟩ := hint_turn k u pd md ns hN hl z3 h3 acc (by omega) z6 z7 st (.int x)
    obtain ⟨w3, w6, w7, gs, st2, h4, h5, e2⟩ := hint_loop k u pd md ns hN hl xs (.sh (.lst (ns.map .str))) (acc ++ fs) (.sh (.int x)) y7 st1 (.inr rfl) (by rw [List.length_append]; omega)
    refine ⟨w3, w6, w7, fs ++ gs, st2, fun f hf => (List.mem_append.mp hf).elim (h1 f) (h4 f), by rw [List.length_append, List.length_cons]; omega, ?_⟩
    simp only [List.map_cons, forL, e1]
    rw [e2, List.append_assoc]
theorem psl1 (p : Proc) : slD p.toD none (some 5) = some (false, .tup [.str p.name, .tup (p.items.map Itm.toD), sD p.results, .tup (p.places.map Itm.toD), .tup []]) := rfl
theorem psl2 (p : Proc) : slD p.toD (some 6) none = some (false, .tup [.tup [], .tup [], .tup (p.body.map St.toD)]) := rfl
theorem law_hinted (k : Nat) {c : List Proc} {U : List Wd} {p : Proc} (g : GProc c p) (u : UOk U) (hk : ∀ i ∈ p.items ++ p.places, KeyOk U i) (mo : List Wd) (st : DS) :
    ∃ (hf : List Fm) (st' : DS), (∀ f ∈ hf, Wf U f) ∧ hf.length ≤ 6 ∧ Phi tb (k + 4) 50 [.ref 0, p.toD, .lst (mo.map .str)] [st.cell] = .ok false (hnt p hf).toD [st'.cell] := by
  obtain ⟨v, st1, hv, e1⟩ := drawI (k + 2) st [] 4 (by decide) (by decide)
  have e2 := law_states (k + 1) g mo [st.cell]
  have e2 : Phi tb (k + 3) 37 [p.toD, .lst (mo.map .str)] [st.cell] = _ := e2
  generalize hM : (p.items.filter fun i => decide (i.key ∈ mo)) = M at e2
  have hml : M.length ≤ 3 := by rw [← hM]; exact Nat.le_trans (List.length_filter_le _ _) g.il
  have hMi : ∀ i ∈ M, i ∈ p.items := fun i hi => by rw [← hM] at hi; exact (List.mem_filter.mp hi).1
  have hpl := g.pl
  have hil := g.il
  let ns : List Wd := (p.items.map fun i => 64 :: i.key) ++ (M ++ p.places).map Itm.key
  have hN : ∀ x ∈ ns, x ∈ U := fun x hx => by
    rcases List.mem_append.mp hx with hx | hx
    · obtain ⟨i, hi, rfl⟩ := List.mem_map.mp hx
      exact (hk i (List.mem_append_left _ hi)).b
    · obtain ⟨i, hi, rfl⟩ := List.mem_map.mp hx
      rcases List.mem_append.mp hi with hi | hi
      · exact (hk i (List.mem_append_left _ (hMi i hi))).a
      · exact (hk i (List.mem_append_right _ hi)).a
  have hnl : ns.length ≤ 15 := by
    simp only [ns, List.length_append, List.length_map]
    omega
  have hns : (p.items.map fun i => D.str (64 :: i.key)) ++ ((M ++ p.places).map fun i => D.str i.key) = ns.map .str := by
    simp only [ns, List.map_append, List.map_map]
    rfl
  have hsum : (p.items.map fun i => D.str (64 :: i.key)).length + ((M ++ p.places).map fun i => D.str i.key).length ≤ LIM := lim_le (by simp only [List.length_map, List.length_append]; omega)
  obtain ⟨y3, y6, y7, fs, st2, h1, h2, e3⟩ := hint_loop (k + 2) u p.toD (.lst (mo.map .str)) ns hN (by omega) (List.range v) (.own (.L (ns.map .str))) [] .no .no st1 (.inl rfl) (by rw [List.length_range]; simp; omega)
  rw [List.length_range] at h2
  have hc : ev (prog tb (k + 3)) f50_c1 ⟨[.sh (.ref 0), .sh p.toD, .sh (.lst (mo.map .str)), .no, .no, .no, .no, .no, .no], [st.cell]⟩ = .ok (true, .lst (p.items.map fun i => .str (64 :: i.key))) ⟨[.sh (.ref 0), .sh p.toD, .sh (.lst (mo.map .str)), .no, .no, .no, .no, .no, .no], [st.cell]⟩ := by
    unfold f50_c1
    refine ev_compM (P := prog tb (k + 3)) (σ := [.sh (.ref 0), .sh p.toD, .sh (.lst (mo.map .str)), .no, .no, .no, .no, .no, .no]) (S := [st.cell]) (σ1 := [.sh (.ref 0), .sh p.toD, .sh (.lst (mo.map .str)), .no, .no, .no, .no, .no, .no]) (S1 := [st.cell]) p.items Itm.toD (fun i => .str (64 :: i.key)) rfl (by simp! []) (lim_le (by omega)) fun i hi => ?_
    have e := law_key (k + 2) i (g.ix i hi) [st.cell]
    have b := key_lim i (g.ix i hi)
    simp! [cturn, e, b]
  have hfl : fs.length ≤ LIM := lim_le (by omega)
  refine ⟨fs, st2, h1, by omega, ?_⟩
  rw [phi_succ (fn := f50) rfl rfl (by decide)]
  show fin 1 (execs (prog tb (k + 3)) f50.body ⟨[.sh (.ref 0), .sh p.toD, .sh (.lst (mo.map .str)), .no, .no, .no, .no, .no, .no], [st.cell]⟩) = _
  unfold f50
  refine fin_seq (s1 := ⟨[.sh (.ref 0), .sh p.toD, .sh (.lst (mo.map .str)), .own (.L (ns.map .str)), .no, .no, .no, .no, .no], [st.cell]⟩) ?_ ?_
  · rw [← hns]
    generalize (p.items.map fun i => D.str (64 :: i.key)) = X at hc hsum ⊢
    generalize ((M ++ p.places).map fun i => D.str i.key) = Y at e2 hsum ⊢
    generalize p.toD = pd at hc e2 ⊢
    simp! [f50_c1r, hc, e2, hsum]
  refine fin_seq (s1 := hz p.toD (.lst (mo.map .str)) (.own (.L (ns.map .str))) [] .no .no st) (by simp! [hz]) ?_
  refine fin_seq (s1 := hz p.toD (.lst (mo.map .str)) y3 fs y6 y7 st2) (fr_go (s1 := hz p.toD (.lst (mo.map .str)) (.own (.L (ns.map .str))) [] .no .no st1) (ds := (List.range v).map fun (i : Nat) => D.int i) (evit_rng (ds := [.int v]) ?_ (range_one v (lim_le (by omega)))) (by simpa using e3)) ?_
  · generalize (v : Int) = vv at e1 ⊢
    simp! [hz, e1]
  refine fin_ret (o := false) (d := (hnt p fs).toD) (s1 := hz p.toD (.lst (mo.map .str)) y3 fs y6 y7 st2) ?_ ?_
  · have a1 := psl1 p
    have a2 := psl2 p
    have a3 : (hnt p fs).toD = .tup [.str p.name, .tup (p.items.map Itm.toD), sD p.results, .tup (p.places.map Itm.toD), .tup [], .tup (fs.map fmD), .tup [], .tup [], .tup (p.body.map St.toD)] := rfl
    have a4 : ∀ S, derefS S p.toD = some p.toD := fun S => rfl
    rw [a3]
    simp! [hz, Proc.toD, hfl]
  · simp! [hz]
end K62

set_option Elab.async false
set_option linter.all false
set_option maxRecDepth 100000
set_option maxHeartbeats 2000000
set_option autoImplicit false
/-! k62: a core with hints. -/
namespace K62
open Z Co
local macro_rules
  | `(tactic| simp! [$ts,*]) => `(tactic| simp [plains, deeps, D.fit, D.plain, D.deep, lim_ble, lim_blt, cut_fromI, cut_toI, ex_set, ex_setT, ex_aug, ex_put, ex_retv, rt_lit, rt_g, rt_pr, rt_sl, rt_mp, rt_mu, rt_tup, rt_lst, rt_call, rt_callv, rt_notV, rt_bopV, rt_ite, rt_cell, rt_kin, rt_kix, rt_comp, rt_dct, ex_retN, ex_ife, ex_brk, ex_cnt, ex_pass, ex_exp, ex_rais, exs_nil, exs_cons, call_eq, glob_eq, kd_eq, atI_zero, atI_1, atI_2, atI_3, atI_4, atI_5, atI_8, wipeZ, backZ, appendC, extendC, popC, insertC, rd_v, rp_v, rp_pr, rd_lit, rd_g, rd_pr, rd_sl, rd_mp, rd_mu, rd_tup, rd_lst, rd_call, rd_callv, rd_notV, rd_bopV, rd_ite, rd_cell, rd_kin, rd_kix, rd_comp, rd_dct, rd_fn, ev, evs, evo, evrs, evt, evtb, evts, evit, evb, readV, Place.get, Place.set, Arg.get, getAll, Res.bind, Res.then, RS.seq, lift, prim, prim1, prim2, binD, cmpD, ix_lst, ix_tup, ix_str, ix_dct, slD, lenP, lenD, intD, negD, bindTo, assign, assigns, fin, der_non, der_bl, der_int, der_str, der_tup, der_lst, der_dct, der_ref, der_scr, der_fn, gc, fit_str, fit_int, D.eqv, truthD, Cell.view, isList, mutC, mrecv, mprim, mprim2, mprim3, augD, toCell, Option.bind, fromF, isiP, isiD, tupleD, listD, seqOf, noX, iterD, isSh, pix0, pix1, pix2, pix3, pix5, pix8, pder, iix0, iix1, ider, sder, eix0, kind_ne, eder, aix0, aix0e, aix1, ader, cder, $ts,*])
def Uof (p : Proc) : List Wd := (p.items ++ p.places).map Itm.key ++ (p.items ++ p.places).map fun i => 64 :: i.key
def HOk (p : Proc) (hf : List Fm) : Prop := hf.length ≤ 6 ∧ ∀ f ∈ hf, Wf (Uof p) f
def hr : List Proc → List Proc → Prop
  | [], [] => True
  | p :: c, q :: c' => (∃ hf, q = hnt p hf ∧ HOk p hf) ∧ hr c c'
  | _, _ => False
theorem hr_names : ∀ {c c' : List Proc}, hr c c' → c'.map (·.name) = c.map (·.name)
  | [], [], _ => rfl
  | p :: c, q :: c', h => by
    obtain ⟨⟨hf, rfl, _⟩, h2⟩ := h
    simp only [List.map_cons, hr_names h2]
    rfl
theorem hr_len : ∀ {c c' : List Proc}, hr c c' → c'.length = c.length
  | [], [], _ => rfl
  | p :: c, q :: c', h => by simp only [List.length_cons, hr_len h.2]
theorem hr_mem : ∀ {c c' : List Proc} {q : Proc}, hr c c' → q ∈ c' → ∃ p ∈ c, ∃ hf, q = hnt p hf ∧ HOk p hf
  | [], [], _, _, h => absurd h List.not_mem_nil
  | [], _ :: _, _, h, _ => by cases h
  | _ :: _, [], _, h, _ => by cases h
  | p :: c, q1 :: c', q, h, hq => by
    rcases List.mem_cons.mp hq with rfl | hq
    · obtain ⟨hf, e, o⟩ := h.1
      exact ⟨p, List.mem_cons_self, hf, e, o⟩
    · obtain ⟨p', h1, h2⟩ := hr_mem h.2 hq
      exact ⟨p', List.mem_cons_of_mem _ h1, h2⟩
theorem hr_mem2 : ∀ {c c' : List Proc} {p : Proc}, hr c c' → p ∈ c → ∃ hf, hnt p hf ∈ c'
  | [], _, _, _, h => absurd h List.not_mem_nil
  | _ :: _, [], _, h, _ => by cases h
  | p1 :: c, q1 :: c', p, h, hp => by
    rcases List.mem_cons.mp hp with rfl | hp
    · obtain ⟨hf, e, o⟩ := h.1
      exact ⟨hf, e ▸ List.mem_cons_self⟩
    · obtain ⟨hf, h1⟩ := hr_mem2 h.2 hp
      exact ⟨hf, List.mem_cons_of_mem _ h1⟩
theorem hr_gst {c c' : List Proc} (H : hr c c') {p : Proc} {hf : List Fm} {s : St} (g : GSt c p s) : GSt c' (hnt p hf) s := by
  cases s with
  | call f as ts =>
    obtain ⟨⟨q, hq, hn, hfit⟩, h2, h3⟩ := g
    obtain ⟨hq2, h4⟩ := hr_mem2 H hq
    exact ⟨⟨hnt q hq2, h4, hn, hfit⟩, h2, h3⟩
  | set x e => exact g
  | store x e f => exact g
  | push x e => exact g
  | pop x e => exact g
  | pause => exact g
  | whl c b => exact g
  | ite c b d => exact g
  | give e => exact g
theorem hr_core {c c' : List Proc} (H : hr c c') (G : GCore c) : GCore c' := by
  refine ⟨by rw [hr_len H]; exact G.len, by rw [hr_names H]; exact G.nd, fun q hq => ?_⟩
  obtain ⟨p, hp, hf, rfl, _⟩ := hr_mem H hq
  have g := G.ps p hp
  exact ⟨g.nm, g.hg, g.ln, fun s hs => hr_gst H (g.st s hs), g.il, g.pl, g.rl, g.ix, g.px, g.al, g.dj⟩
theorem der_to {c c' : List Proc} (H : hr c c') : ∀ {p : Proc} {x : Wd}, Der [35] asg c p x → ∀ hf, Der [35] asg c' (hnt p hf) x := fun {p x} d => by
  induction d with
  | base hs hx => exact fun hf => .base (p := hnt _ hf) hs hx
  | @step p q as ts i x hs hq hz hi d ih =>
    intro hf
    obtain ⟨hf', h4⟩ := hr_mem2 H hq
    exact .step (p := hnt p hf) (q := hnt q hf') hs h4 hz hi (ih hf')
theorem der_of {c c' : List Proc} (H : hr c c') : ∀ {q : Proc} {x : Wd}, Der [35] asg c' q x → ∀ p hf, q = hnt p hf → Der [35] asg c p x := fun {q x} d => by
  induction d with
  | base hs hx =>
    intro p hf e
    subst e
    exact .base hs hx
  | @step q q1 as ts i x hs hq hz hi d ih =>
    intro p hf e
    subst e
    obtain ⟨p1, h1, hf1, rfl, _⟩ := hr_mem H hq
    exact .step (q := p1) hs h1 hz hi (ih p1 hf1 rfl)
theorem mv_hnt {c c' : List Proc} (H : hr c c') (p : Proc) (hf : List Fm) : mv c' (hnt p hf) = mv c p := by
  unfold mv
  show p.items.filter _ = _
  apply List.filter_congr
  intro i _
  rw [decide_eq_decide]
  exact ⟨fun h => der_of H h p hf rfl, fun h => der_to H h hf⟩
/-! ### what is known of a procedure that is drawn -/
theorem key_tx {h : Hd} (g : GHd h) {i : Itm} (hi : i ∈ h.vars) : (∀ ch ∈ i.key, ch < 1114112) ∧ i.key.length ≤ 100 ∧ i.key ≠ [] := by
  have h1 := g.xl i hi
  have h2 := g.ok i hi
  have hx : ∀ ch ∈ i.x, ch < 1114112 := fun ch hc => by
    rcases h2.2 ch hc with h | h <;> omega
  unfold Itm.key
  split
  · refine ⟨fun ch hc => ?_, by simp only [List.length_cons]; omega, by simp⟩
    rcases List.mem_cons.mp hc with rfl | hc
    · decide
    · exact hx ch hc
  · exact ⟨hx, by omega, h2.1⟩
theorem txt_of {x : Wd} (h : ∀ ch ∈ x, ch < 1114112) (hl : x.length ≤ 999) : txtB x = true := by
  simp only [txtB, Bool.and_eq_true, decide_eq_true_eq, List.all_eq_true]
  exact ⟨Nat.le_trans hl (by decide), h⟩
theorem uof_mem {h : Hd} {body : List St} {x : Wd} (hx : x ∈ Uof (mkP h body)) : ∃ i ∈ h.vars, x = i.key ∨ x = 64 :: i.key := by
  rcases List.mem_append.mp hx with hx | hx
  · obtain ⟨i, hi, rfl⟩ := List.mem_map.mp hx
    exact ⟨i, hi, .inl rfl⟩
  · obtain ⟨i, hi, rfl⟩ := List.mem_map.mp hx
    exact ⟨i, hi, .inr rfl⟩
theorem uok {h : Hd} (g : GHd h) (body : List St) : UOk (Uof (mkP h body)) := by
  refine ⟨?_, fun x hx => ?_⟩
  · have h1 := g.il
    have h2 := g.pl
    simp only [Uof, mkP, List.length_append, List.length_map]
    omega
  · obtain ⟨i, hi, e⟩ := uof_mem hx
    obtain ⟨h1, h2, _⟩ := key_tx g hi
    rcases e with rfl | rfl
    · exact txt_of h1 (by omega)
    · refine txt_of (fun ch hc => ?_) (by simp only [List.length_cons]; omega)
      rcases List.mem_cons.mp hc with rfl | hc
      · decide
      · exact h1 ch hc
theorem uof_ne {h : Hd} (g : GHd h) (body : List St) : ∀ x ∈ Uof (mkP h body), x ≠ [] := fun x hx => by
  obtain ⟨i, hi, e⟩ := uof_mem hx
  rcases e with rfl | rfl
  · exact (key_tx g hi).2.2
  · simp
theorem keyok {h : Hd} (g : GHd h) (body : List St) : ∀ i ∈ (mkP h body).items ++ (mkP h body).places, KeyOk (Uof (mkP h body)) i := fun i hi =>
  ⟨g.xl i hi, List.mem_append_left _ (List.mem_map.mpr ⟨i, hi, rfl⟩), List.mem_append_right _ (List.mem_map.mpr ⟨i, hi, rfl⟩)⟩
theorem ctx {h : Hd} (g : GHd h) (body : List St) : Ctx (Uof (mkP h body)) h.ints h.arrs := by
  refine ⟨uok g body, fun x hx => ?_, fun x hx => ?_⟩
  · obtain ⟨i, hi, rfl⟩ := List.mem_map.mp hx
    obtain ⟨hi, ha⟩ := List.mem_filter.mp hi
    have K := keyok g body i hi
    have e : i.key = i.x := by
      unfold Itm.key
      cases hb : i.arr with
      | true => rw [hb] at ha; cases ha
      | false => rfl
    exact ⟨K.x, e ▸ K.a, e ▸ K.b⟩
  · obtain ⟨i, hi, rfl⟩ := List.mem_map.mp hx
    obtain ⟨hi, ha⟩ := List.mem_filter.mp hi
    have K := keyok g body i hi
    have e : i.key = 35 :: i.x := by
      unfold Itm.key
      rw [if_pos ha]
    exact ⟨K.x, e ▸ K.a, e ▸ K.b⟩
theorem pst_bst {hs : List Hd} {h : Hd} {s : St} (p : PSt hs h s) : BSt h.ints h.arrs s := by
  cases s <;> first | exact p | trivial
theorem pctx {hs : List Hd} {h : Hd} (g : GHd h) {body : List St} (B : BodyOk hs h body) {hf : List Fm} (o : HOk (mkP h body) hf) : PCtx (Uof (mkP h body)) h.ints h.arrs (hnt (mkP h body) hf) hf := by
  refine ⟨ctx g body, keyok g body, fun s hs' => ?_, rfl, by have := o.1; omega⟩
  rcases (body_facts B).2.2 s hs' with h1 | ⟨e, rfl⟩
  · exact pst_bst h1
  · trivial
/-! ### all that is found is in order -/
theorem diF_wf {U : List Wd} {i : Itm} (K : KeyOk U i) : ∀ f ∈ diF i, Wf U f := fun f hf => by
  rcases List.mem_cons.mp hf with rfl | hf
  · exact fminus_wf (fvar_wf K.a) (fvar_wf K.b)
  · rw [List.mem_singleton.mp hf]
    exact fminus_wf (fvar_wf K.b) (fvar_wf K.a)
theorem cm2_wf {U is as : List Wd} (C : Ctx U is as) (s : List Wd) {e f : Ex} (he : inE is as e) (hf : inE is as f) : ∀ g ∈ cm2 s e f, Wf U g := fun g hg => by
  unfold cm2 at hg
  split at hg
  · rename_i a b ha hb
    have wa := pf_wf C s e he ha
    have wb := pf_wf C s f hf hb
    simp only [List.mem_cons, List.not_mem_nil, or_false] at hg
    rcases hg with rfl | rfl | rfl | rfl
    · exact fminus_wf wa wb
    · exact fminus_wf wb wa
    · exact fplus_wf (fminus_wf wa wb) (const_wf _)
    · exact fplus_wf (fminus_wf wb wa) (const_wf _)
  · cases hg
theorem cdF_wf {U is as : List Wd} (C : Ctx U is as) (s : List Wd) {c : Cd} (hc : inC is as c) : ∀ g ∈ cdF s c, Wf U g := fun g hg => by
  obtain ⟨a, ha, hg⟩ := List.mem_flatMap.mp hg
  obtain ⟨h1, h2⟩ := atoms_in hc a ha
  cases a with
  | less e f => exact cm2_wf C s h2.1 h2.2.1 g hg
  | same e f => exact cm2_wf C s h2.1 h2.2.1 g hg
  | not c => cases h1
  | and c d => cases h1
  | or c d => cases h1
theorem stF_wf {U is as : List Wd} (C : Ctx U is as) (s : List Wd) {t : St} (h : BSt is as t) : ∀ g ∈ stF s t, Wf U g := by
  cases t <;> first | exact cdF_wf C s h | exact fun g hg => absurd hg (List.not_mem_nil)
theorem stE_wf {U is as : List Wd} (C : Ctx U is as) (s : List Wd) {t : St} (h : BSt is as t) : ∀ g ∈ stE s t, Wf U g := by
  cases t with
  | set x e =>
    intro g hg
    simp only [stE, seF] at hg
    split at hg
    · split at hg
      · rename_i f hf
        have wf := pf_wf C s e h.2.1 hf
        have wx := fvar_wf (C.i1 x h.1).2.1
        simp only [List.mem_cons, List.not_mem_nil, or_false] at hg
        rcases hg with rfl | rfl
        · exact fminus_wf wx wf
        · exact fminus_wf wf wx
      · cases hg
    · cases hg
  | _ => exact fun g hg => absurd hg (List.not_mem_nil)
theorem fnd_wf {U is as : List Wd} {p : Proc} {hf : List Fm} (P : PCtx U is as p hf) (M : List Itm) (hM : ∀ i ∈ M, i ∈ p.items) : ∀ g ∈ fnd ((M ++ p.places).map Itm.key) M (flat p.body), Wf U g := fun g hg => by
  unfold fnd at hg
  rcases List.mem_append.mp hg with hg | hg
  · rcases List.mem_append.mp hg with hg | hg
    · rcases List.mem_append.mp hg with hg | hg
      · obtain ⟨x, hx, rfl⟩ := List.mem_map.mp hg
        obtain ⟨i, hi, rfl⟩ := List.mem_map.mp hx
        exact fvar_wf (P.ks i ((List.mem_append.mp hi).elim (fun h => List.mem_append_left _ (hM i h)) (List.mem_append_right _))).a
      · obtain ⟨i, hi, hg⟩ := List.mem_flatMap.mp hg
        exact diF_wf (P.ks i (List.mem_append_left _ (hM i hi))) g hg
    · obtain ⟨s, hs, hg⟩ := List.mem_flatMap.mp hg
      exact stF_wf P.C _ (P.st s hs) g hg
  · obtain ⟨s, hs, hg⟩ := List.mem_flatMap.mp hg
    exact stE_wf P.C _ (P.st s hs) g hg
theorem wdl_mem : ∀ (fs acc : List Fm) {g : Fm}, g ∈ wdl acc fs → g ∈ acc ∨ g ∈ fs
  | [], acc, g, h => .inl h
  | f :: fs, acc, g, h => by
    simp only [wdl, List.foldl_cons] at h
    rcases wdl_mem fs _ h with h | h
    · split at h
      · rcases List.mem_append.mp h with h | h
        · exact .inl h
        · exact .inr (by rw [List.mem_singleton.mp h]; exact List.mem_cons_self)
      · exact .inl h
    · exact .inr (List.mem_cons_of_mem _ h)
theorem smps_prs : ∀ l : List Pr, smps (l.map prD) = true
  | [] => rfl
  | p :: l => by simp [smps, prD, smp, smps_prs l, lim_2]
theorem smp_fm {U : List Wd} (u : UOk U) {f : Fm} (w : Wf U f) : smp (fmD f) = true := by
  have := wf_lim u w
  simp [fmD, smp, smps, smps_prs, this, lim_2]
theorem smps_fms {U : List Wd} (u : UOk U) : ∀ {l : List Fm}, (∀ f ∈ l, Wf U f) → smps (l.map fmD) = true
  | [], _ => rfl
  | f :: l, h => by simp [smps, smp_fm u (h f List.mem_cons_self), smps_fms u fun g hg => h g (List.mem_cons_of_mem _ hg)]
theorem same_fms (k : Nat) {U : List Wd} (u : UOk U) {l : List Fm} (h : ∀ f ∈ l, Wf U f) (hl : l.length ≤ LIM) (S : List Cell) : Phi tb (k + 6) 29 [.tup (l.map fmD), .tup (l.map fmD)] S = .ok false (.bl true) S :=
  same_D S 4 k _ (by have := fms_deep l; simp only [D.deep]; omega) (by simp [smp, smps_fms u h, hl])
end K62

set_option Elab.async false
set_option linter.all false
set_option maxRecDepth 100000
set_option maxHeartbeats 4000000
set_option autoImplicit false
/-! k62: the law. -/
namespace K62
open Z Co
local macro_rules
  | `(tactic| simp! [$ts,*]) => `(tactic| simp [plains, deeps, D.fit, D.plain, D.deep, lim_ble, lim_blt, cut_fromI, cut_toI, ex_set, ex_setT, ex_aug, ex_put, ex_retv, rt_lit, rt_g, rt_pr, rt_sl, rt_mp, rt_mu, rt_tup, rt_lst, rt_call, rt_callv, rt_notV, rt_bopV, rt_ite, rt_cell, rt_kin, rt_kix, rt_comp, rt_dct, ex_retN, ex_ife, ex_brk, ex_cnt, ex_pass, ex_exp, ex_rais, exs_nil, exs_cons, call_eq, glob_eq, kd_eq, atI_zero, atI_1, atI_2, atI_3, atI_4, atI_5, atI_8, wipeZ, backZ, appendC, extendC, popC, insertC, rd_v, rp_v, rp_pr, rd_lit, rd_g, rd_pr, rd_sl, rd_mp, rd_mu, rd_tup, rd_lst, rd_call, rd_callv, rd_notV, rd_bopV, rd_ite, rd_cell, rd_kin, rd_kix, rd_comp, rd_dct, rd_fn, ev, evs, evo, evrs, evt, evtb, evts, evit, evb, readV, Place.get, Place.set, Arg.get, getAll, Res.bind, Res.then, RS.seq, lift, prim, prim1, prim2, binD, cmpD, ix_lst, ix_tup, ix_str, ix_dct, slD, lenP, lenD, intD, negD, bindTo, assign, assigns, fin, der_non, der_bl, der_int, der_str, der_tup, der_lst, der_dct, der_ref, der_scr, der_fn, gc, fit_str, fit_int, D.eqv, truthD, Cell.view, isList, mutC, mrecv, mprim, mprim2, mprim3, augD, toCell, Option.bind, fromF, isiP, isiD, tupleD, listD, seqOf, noX, iterD, isSh, pix0, pix1, pix2, pix3, pix5, pix8, pder, iix0, iix1, ider, sder, eix0, kind_ne, eder, aix0, aix0e, aix1, ader, cder, $ts,*])
def lz (ns : List Int) (j2 : Slot) (cd : D) (c : List Proc) (T : Tab) (j5 : Slot) (st : DS) : Sta := ⟨[.sh (.scr ns), .sh (.ref 0), j2, .sh cd, .own (.M (namesD c) (listsD T)), j5], [st.cell]⟩
def lz0 (ns : List Int) (j2 j3 j4 j5 : Slot) (st : DS) : Sta := ⟨[.sh (.scr ns), .sh (.ref 0), j2, j3, j4, j5], [st.cell]⟩
structure QOk (q : Proc) : Prop where
  ex : ∃ U is as hf, PCtx U is as q hf ∧ (∀ x ∈ U, x ≠ []) ∧ ∀ f ∈ hf, Wf U f
theorem ife_go {P : Prog} {t : T} {a xs : List S} {s s' : Sta} {r : RS} (h : evt P t s = .ok false s') (h2 : execs P xs s' = r) : execs P (.ife t a [] :: xs) s = r := (seq_next (exec_if_false h exs_nil)).trans h2
theorem law_p (k : Nat) (ns : List Int) {c c' : List Proc} (G : GCore c) (H : hr c c') {T : Tab} (IT : Inv [35] asg c T) (FT : Full [35] asg c T) (hQ : ∀ q ∈ c', QOk q) {q : Proc} (hq : q ∈ c') (j2 j5 : Slot) (st : DS) :
    fbody (prog tb (k + 8)) (.v 5) f51_b2 q.toD (lz ns j2 (coreD c') c T j5 st) = .next (lz ns j2 (coreD c') c T (.sh q.toD) st) := by
  have G' := hr_core H G
  have g' := G'.ps q hq
  obtain ⟨⟨U, is, as, hf, P, hne, hw⟩⟩ := hQ q hq
  obtain ⟨p, hp, hf0, hqe, _⟩ := hr_mem H hq
  have lT := lookD_lists IT.len hp
  have hn : p.name = q.name := by rw [hqe]; rfl
  rw [hn] at lT
  have hM : (q.items.filter fun i => decide (i.key ∈ tat c T q.name)) = mv c' q := by
    rw [hqe, mv_hnt H]
    show p.items.filter (fun i => decide (i.key ∈ tat c T p.name)) = _
    unfold mv
    apply List.filter_congr
    intro i _
    rw [decide_eq_decide]
    exact full_iff IT FT hp _
  have a1 := point_candidates k G' P hq [st.cell] (okS_st st)
  have d1 := law_due (k + 1) g' P hne (tat c T q.name) [st.cell] (mv c' q) hM
  have hmem : ∀ f ∈ wdl [(-1, [])] (fnd (stsOf c' q) (mv c' q) (flat q.body) ++ hf), Wf U f := fun f hf' => by
    rcases wdl_mem _ _ hf' with h | h
    · rw [List.mem_singleton.mp h]
      exact const_wf _
    · rcases List.mem_append.mp h with h | h
      · exact fnd_wf P (mv c' q) (fun i hi => (List.mem_filter.mp hi).1) f h
      · exact hw f h
  have hlen : (wdl [(-1, [])] (fnd (stsOf c' q) (mv c' q) (flat q.body) ++ hf)).length ≤ LIM := by
    refine Nat.le_trans (wdl_len _ _) (lim_le2 ?_)
    have h1 : (mv c' q).length ≤ 3 := Nat.le_trans (List.length_filter_le _ _) g'.il
    have h2 := g'.pl
    have h3 : ((flat q.body).flatMap (stF (stsOf c' q))).length ≤ 8 * (flat q.body).length := flat_len fun s hs => stF_len _ (P.st s hs)
    have h4 : ((flat q.body).flatMap (stE (stsOf c' q))).length ≤ 8 * (flat q.body).length := flat_len fun s hs => stE_len _ s
    have h5 : ((mv c' q).flatMap diF).length ≤ 2 * (mv c' q).length := flat_len fun i _ => by simp [diF]
    have h6 := P.hl
    have h7 := g'.ln
    have h8 : (stsOf c' q).length = (mv c' q).length + q.places.length := by simp [stsOf]
    unfold fnd
    simp only [List.length_append, List.length_map, List.length_cons, List.length_nil]
    omega
  have b1 := same_fms (k + 2) P.C.u hmem hlen [st.cell]
  have d1 : Phi tb (k + 8) 48 [q.toD, .lst ((tat c T q.name).map .str)] [st.cell] = .ok false (.tup ((wdl [(-1, [])] (fnd (stsOf c' q) (mv c' q) (flat q.body) ++ hf)).map fmD)) [st.cell] := d1
  have b1 : Phi tb (k + 8) 29 [.tup ((wdl [(-1, [])] (fnd (stsOf c' q) (mv c' q) (flat q.body) ++ hf)).map fmD), .tup ((wdl [(-1, [])] (fnd (stsOf c' q) (mv c' q) (flat q.body) ++ hf)).map fmD)] [st.cell] = .ok false (.bl true) [st.cell] := b1
  generalize D.tup ((wdl [(-1, [])] (fnd (stsOf c' q) (mv c' q) (flat q.body) ++ hf)).map fmD) = X at a1 b1 d1
  have t1 : evt (prog tb (k + 8)) (.not (.e (.call 29 [(.call 21 [(.v 3), (.pr .ix [(.v 5), (.lit (.int 0))])]), (.call 48 [(.v 5), (.pr .ix [(.v 4), (.pr .ix [(.v 5), (.lit (.int 0))])])])]))) (lz ns j2 (coreD c') c T (.sh q.toD) st) = .ok false (lz ns j2 (coreD c') c T (.sh q.toD) st) := by
    simp only [lz]
    generalize coreD c' = cd at a1 ⊢
    simp! [a1, lT, keyOk, d1, b1]
  refine fbody_v (by simp [lz]) ?_
  show execs (prog tb (k + 8)) f51_b2 (lz ns j2 (coreD c') c T (.sh q.toD) st) = _
  unfold f51_b2
  exact ife_go t1 exs_nil
theorem law_ps (k : Nat) (ns : List Int) {c c' : List Proc} (G : GCore c) (H : hr c c') {T : Tab} (IT : Inv [35] asg c T) (FT : Full [35] asg c T) (hQ : ∀ q ∈ c', QOk q) (j2 : Slot) (st : DS) : ∀ (xs : List Proc) (j5 : Slot), isSh j5 = true → (∀ q ∈ xs, q ∈ c') →
    ∃ j5', isSh j5' = true ∧ forL (fbody (prog tb (k + 8)) (.v 5) f51_b2) (xs.map Proc.toD) (lz ns j2 (coreD c') c T j5 st) = .next (lz ns j2 (coreD c') c T j5' st)
  | [], j5, h5, _ => ⟨j5, h5, rfl⟩
  | q :: xs, j5, h5, h => by
    have e := law_p k ns G H IT FT hQ (h q List.mem_cons_self) j2 j5 st
    obtain ⟨b1, h6, e2⟩ := law_ps k ns G H IT FT hQ j2 st xs (.sh q.toD) rfl fun p hp => h p (List.mem_cons_of_mem _ hp)
    exact ⟨b1, h6, by simp only [List.map_cons, forL, e]; exact e2⟩
theorem h_comp (k : Nat) (ns : List Int) {c : List Proc} (G : GCore c) {T : Tab} (IT : Inv [35] asg c T) (hU : ∀ p ∈ c, UOk (Uof p) ∧ ∀ i ∈ p.items ++ p.places, KeyOk (Uof p) i) (j2 : Slot) (cd : D) : ∀ (xs acc : List Proc) (st : DS), (∀ p ∈ xs, p ∈ c) → acc.length + xs.length ≤ 9 →
    ∃ (ys : List Proc) (st' : DS), hr xs ys ∧ compL (cturn (prog tb (k + 4)) (.v 5) [5] [] (.call 50 [(.v 1), (.v 5), (.pr .ix [(.v 4), (.pr .ix [(.v 5), (.lit (.int 0))])])])) (xs.map Proc.toD) (acc.map Proc.toD) (lz ns j2 cd c T .no st) = .ok ((acc ++ ys).map Proc.toD) (lz ns j2 cd c T .no st')
  | [], acc, st, _, _ => ⟨[], st, trivial, by simp [compL]⟩
  | p :: xs, acc, st, hx, hl => by
    simp only [List.length_cons] at hl
    have hp := hx p List.mem_cons_self
    have lT := lookD_lists IT.len hp
    obtain ⟨hf, st1, h1, h2, e1⟩ := law_hinted k (G.ps p hp) (hU p hp).1 (hU p hp).2 (tat c T p.name) st
    obtain ⟨ys, st2, h3, e2⟩ := h_comp k ns G IT hU j2 cd xs (acc ++ [hnt p hf]) st1 (fun q hq => hx q (List.mem_cons_of_mem _ hq)) (by simp; omega)
    refine ⟨hnt p hf :: ys, st2, ⟨⟨hf, rfl, h2, h1⟩, h3⟩, ?_⟩
    have hL : (acc.map Proc.toD).length < LIM := lim_lt (by rw [List.length_map]; omega)
    have ht : cturn (prog tb (k + 4)) (.v 5) [5] [] (.call 50 [(.v 1), (.v 5), (.pr .ix [(.v 4), (.pr .ix [(.v 5), (.lit (.int 0))])])]) p.toD (lz ns j2 cd c T .no st) = .ok (some (hnt p hf).toD) (lz ns j2 cd c T .no st1) := by
      generalize (hnt p hf).toD = hd at e1 ⊢
      simp! [cturn, lz, lT, keyOk, e1]
    simp only [List.map_cons, compL, ht, Res.bind]
    rw [if_pos hL]
    have ea : acc.map Proc.toD ++ [(hnt p hf).toD] = (acc ++ [hnt p hf]).map Proc.toD := by simp
    rw [ea, e2]
    simp
theorem qok_of {hs : List Hd} {c c' : List Proc} (A : al2 hs hs c) (gs : ∀ h ∈ hs, GHd h) (H : hr c c') : ∀ q ∈ c', QOk q := fun q hq => by
  obtain ⟨p, hp, hf, rfl, o⟩ := hr_mem H hq
  obtain ⟨h, hh, body, rfl, B⟩ := al2_mem A hp
  exact ⟨_, _, _, hf, pctx (gs h hh) B o, uof_ne (gs h hh) body, o.2⟩
theorem law_turn (k : Nat) (ns : List Int) (d : D) (j2 j3 j4 j5 : Slot) (h5 : isSh j5 = true) (st : DS) : ∃ j3' j4' j5' st', isSh j5' = true ∧ fbody (prog tb (k + 12)) (.v 2) f51_b3 d (lz0 ns j2 j3 j4 j5 st) = .next (lz0 ns (.sh d) j3' j4' j5' st') := by
  obtain ⟨hs, c, st1, A, gs, l1, l2, nd, e1⟩ := wild_core k st
  have G := gcore A gs l2 nd
  obtain ⟨T, e2, IT, FT⟩ := law_moves (k + 8) G [st1.cell]
  have hU : ∀ p ∈ c, UOk (Uof p) ∧ ∀ i ∈ p.items ++ p.places, KeyOk (Uof p) i := fun p hp => by
    obtain ⟨h, hh, body, rfl, B⟩ := al2_mem A hp
    exact ⟨uok (gs h hh) body, keyok (gs h hh) body⟩
  obtain ⟨c', st2, H, e3⟩ := h_comp (k + 8) ns G IT hU (.sh d) (coreD c) c [] st1 (fun p hp => hp) (by have := G.len; simp; omega)
  obtain ⟨b5, h6, e4⟩ := law_ps (k + 4) ns G H IT FT (qok_of A gs H) (.sh d) st2 c' j5 h5 fun p hp => hp
  have hc'l : c'.length ≤ LIM := by rw [hr_len H]; exact lim_le (by have := G.len; omega)
  have hc : ev (prog tb (k + 12)) f51_c1 (lz ns (.sh d) (coreD c) c T j5 st1) = .ok (true, .lst (c'.map Proc.toD)) (lz ns (.sh d) (coreD c) c T j5 st2) := by
    unfold f51_c1
    refine (ev_comp (s1 := lz ns (.sh d) (coreD c) c T j5 st1) (s5 := lz ns (.sh d) (coreD c) c T .no st2) (ds := c.map Proc.toD) (r := c'.map Proc.toD) (by simp! [lz, coreD]) (by simpa [lz] using h5) (by simpa [wipeZ, lz] using e3)).trans (by simp [backZ, lz])
  refine ⟨.sh (coreD c'), .own (.M (namesD c) (listsD T)), b5, st2, h6, fbody_v (by simp [lz0]) ?_⟩
  show execs (prog tb (k + 12)) f51_b3 (lz0 ns (.sh d) j3 j4 j5 st) = _
  unfold f51_b3
  refine seq_go (s1 := lz0 ns (.sh d) (.sh (coreD c)) j4 j5 st1) ?_ (seq_go (s1 := lz ns (.sh d) (coreD c) c T j5 st1) ?_ (seq_go (s1 := lz ns (.sh d) (coreD c') c T j5 st2) ?_ (seq_end (fr_go (s1 := lz ns (.sh d) (coreD c') c T j5 st2) (ds := c'.map Proc.toD) (by simp! [lz, coreD]) e4))))
  · generalize coreD c = cd at e1 ⊢
    simp! [lz0, e1]
  · generalize coreD c = cd at e2 ⊢
    simp! [lz0, lz, e2]
  · show _ = RS.next (lz ns (.sh d) (.tup (c'.map Proc.toD)) c T j5 st2)
    refine (exec_set (ev_pr1 (x := .val (.lst (c'.map Proc.toD))) (by rw [f51_c1r, hc]; rfl) rfl rfl)).trans ?_
    simp [bindTo, lz]
theorem law_turns (k : Nat) (ns : List Int) : ∀ (xs : List Nat) (j2 j3 j4 j5 : Slot) (st : DS), isSh j5 = true → ∃ j2' j3' j4' j5' st', forL (fbody (prog tb (k + 12)) (.v 2) f51_b3) (xs.map fun (i : Nat) => D.int i) (lz0 ns j2 j3 j4 j5 st) = .next (lz0 ns j2' j3' j4' j5' st')
  | [], j2, j3, j4, j5, st, _ => ⟨j2, j3, j4, j5, st, rfl⟩
  | i :: xs, j2, j3, j4, j5, st, h5 => by
    obtain ⟨a3, a4, a5, st1, h6, e⟩ := law_turn k ns (.int i) j2 j3 j4 j5 h5 st
    obtain ⟨b2, b3, b4, b5, st2, e2⟩ := law_turns k ns xs (.sh (.int i)) a3 a4 a5 st1 h6
    exact ⟨b2, b3, b4, b5, st2, by simp only [List.map_cons, forL, e]; exact e2⟩
theorem plain (ns : List Int) (_ : ns.length ≤ 63) : ∃ S, Phi tb 60 51 [.scr ns] [] = .ok false (.bl true) S := by
  obtain ⟨b2, b3, b4, b5, st, e⟩ := law_turns 47 ns (List.range 2) .no .no .no .no ⟨ns, 0, 0, 0⟩ rfl
  have e0 := start_ok 58 ns
  refine ⟨gc 0 [.bl true] [st.cell], ?_⟩
  rw [phi_succ (fn := f51) rfl rfl (by decide)]
  show fin 0 (execs (prog tb 59) f51.body ⟨[.sh (.scr ns), .no, .no, .no, .no, .no], []⟩) = _
  unfold f51
  refine fin_seq (s1 := lz0 ns .no .no .no .no ⟨ns, 0, 0, 0⟩) (by simp! [lz0, e0]) ?_
  refine fin_seq (s1 := lz0 ns b2 b3 b4 b5 st) (fr_go (s1 := lz0 ns .no .no .no .no ⟨ns, 0, 0, 0⟩) (evit_rng (ds := [.int 2]) (by simp! [lz0]) (range_one 2 (by decide))) e) ?_
  refine fin_ret (o := false) (d := .bl true) (s1 := lz0 ns b2 b3 b4 b5 st) (by simp! [lz0]) ?_
  rfl
end K62

set_option Elab.async false
set_option linter.all false
set_option maxRecDepth 100000
set_option maxHeartbeats 8000000
namespace K62
open PySem PySem.Spec PyProof.Rows L2
theorem all_mk {w : World} {K : PySem.W.Frag} {h : Heap} {mg : Str → Option Value} {fa a0 a1 a2 a3 a4 a5 a6 a7 a8 a9 a10 a11 a12 a13 a14 a15 a16 a17 a18 a19 a20 a21 a22 a23 a24 a25 a26 a27 a28 a29 a30 a31 a32 a33 a34 a35 a36 a37 a38 a39 a40 a41 a42 a43 a44 a45 a46 a47 a48 a49 a50 a51  : Addr} (X : K.In h) (G : h.Ns mainGlobals mg) (hfa : mg "law" = some (.ref fa))
    {od0 an0 : Option Addr} {sl0 : Array (Option Value)} {oc0 kV0 dc0 pm0 cd0 ct0 : Value}
    {od1 an1 : Option Addr} {sl1 : Array (Option Value)} {oc1 kV1 dc1 pm1 cd1 ct1 : Value}
    {od2 an2 : Option Addr} {sl2 : Array (Option Value)} {oc2 kV2 dc2 pm2 cd2 ct2 : Value}
    {od3 an3 : Option Addr} {sl3 : Array (Option Value)} {oc3 kV3 dc3 pm3 cd3 ct3 : Value}
    {od4 an4 : Option Addr} {sl4 : Array (Option Value)} {oc4 kV4 dc4 pm4 cd4 ct4 : Value}
    {od5 an5 : Option Addr} {sl5 : Array (Option Value)} {oc5 kV5 dc5 pm5 cd5 ct5 : Value}
    {od6 an6 : Option Addr} {sl6 : Array (Option Value)} {oc6 kV6 dc6 pm6 cd6 ct6 : Value}
    {od7 an7 : Option Addr} {sl7 : Array (Option Value)} {oc7 kV7 dc7 pm7 cd7 ct7 : Value}
    {od8 an8 : Option Addr} {sl8 : Array (Option Value)} {oc8 kV8 dc8 pm8 cd8 ct8 : Value}
    {od9 an9 : Option Addr} {sl9 : Array (Option Value)} {oc9 kV9 dc9 pm9 cd9 ct9 : Value}
    {od10 an10 : Option Addr} {sl10 : Array (Option Value)} {oc10 kV10 dc10 pm10 cd10 ct10 : Value}
    {od11 an11 : Option Addr} {sl11 : Array (Option Value)} {oc11 kV11 dc11 pm11 cd11 ct11 : Value}
    {od12 an12 : Option Addr} {sl12 : Array (Option Value)} {oc12 kV12 dc12 pm12 cd12 ct12 : Value}
    {od13 an13 : Option Addr} {sl13 : Array (Option Value)} {oc13 kV13 dc13 pm13 cd13 ct13 : Value}
    {od14 an14 : Option Addr} {sl14 : Array (Option Value)} {oc14 kV14 dc14 pm14 cd14 ct14 : Value}
    {od15 an15 : Option Addr} {sl15 : Array (Option Value)} {oc15 kV15 dc15 pm15 cd15 ct15 : Value}
    {od16 an16 : Option Addr} {sl16 : Array (Option Value)} {oc16 kV16 dc16 pm16 cd16 ct16 : Value}
    {od17 an17 : Option Addr} {sl17 : Array (Option Value)} {oc17 kV17 dc17 pm17 cd17 ct17 : Value}
    {od18 an18 : Option Addr} {sl18 : Array (Option Value)} {oc18 kV18 dc18 pm18 cd18 ct18 : Value}
    {od19 an19 : Option Addr} {sl19 : Array (Option Value)} {oc19 kV19 dc19 pm19 cd19 ct19 : Value}
    {od20 an20 : Option Addr} {sl20 : Array (Option Value)} {oc20 kV20 dc20 pm20 cd20 ct20 : Value}
    {od21 an21 : Option Addr} {sl21 : Array (Option Value)} {oc21 kV21 dc21 pm21 cd21 ct21 : Value}
    {od22 an22 : Option Addr} {sl22 : Array (Option Value)} {oc22 kV22 dc22 pm22 cd22 ct22 : Value}
    {od23 an23 : Option Addr} {sl23 : Array (Option Value)} {oc23 kV23 dc23 pm23 cd23 ct23 : Value}
    {od24 an24 : Option Addr} {sl24 : Array (Option Value)} {oc24 kV24 dc24 pm24 cd24 ct24 : Value}
    {od25 an25 : Option Addr} {sl25 : Array (Option Value)} {oc25 kV25 dc25 pm25 cd25 ct25 : Value}
    {od26 an26 : Option Addr} {sl26 : Array (Option Value)} {oc26 kV26 dc26 pm26 cd26 ct26 : Value}
    {od27 an27 : Option Addr} {sl27 : Array (Option Value)} {oc27 kV27 dc27 pm27 cd27 ct27 : Value}
    {od28 an28 : Option Addr} {sl28 : Array (Option Value)} {oc28 kV28 dc28 pm28 cd28 ct28 : Value}
    {od29 an29 : Option Addr} {sl29 : Array (Option Value)} {oc29 kV29 dc29 pm29 cd29 ct29 : Value}
    {od30 an30 : Option Addr} {sl30 : Array (Option Value)} {oc30 kV30 dc30 pm30 cd30 ct30 : Value}
    {od31 an31 : Option Addr} {sl31 : Array (Option Value)} {oc31 kV31 dc31 pm31 cd31 ct31 : Value}
    {od32 an32 : Option Addr} {sl32 : Array (Option Value)} {oc32 kV32 dc32 pm32 cd32 ct32 : Value}
    {od33 an33 : Option Addr} {sl33 : Array (Option Value)} {oc33 kV33 dc33 pm33 cd33 ct33 : Value}
    {od34 an34 : Option Addr} {sl34 : Array (Option Value)} {oc34 kV34 dc34 pm34 cd34 ct34 : Value}
    {od35 an35 : Option Addr} {sl35 : Array (Option Value)} {oc35 kV35 dc35 pm35 cd35 ct35 : Value}
    {od36 an36 : Option Addr} {sl36 : Array (Option Value)} {oc36 kV36 dc36 pm36 cd36 ct36 : Value}
    {od37 an37 : Option Addr} {sl37 : Array (Option Value)} {oc37 kV37 dc37 pm37 cd37 ct37 : Value}
    {od38 an38 : Option Addr} {sl38 : Array (Option Value)} {oc38 kV38 dc38 pm38 cd38 ct38 : Value}
    {od39 an39 : Option Addr} {sl39 : Array (Option Value)} {oc39 kV39 dc39 pm39 cd39 ct39 : Value}
    {od40 an40 : Option Addr} {sl40 : Array (Option Value)} {oc40 kV40 dc40 pm40 cd40 ct40 : Value}
    {od41 an41 : Option Addr} {sl41 : Array (Option Value)} {oc41 kV41 dc41 pm41 cd41 ct41 : Value}
    {od42 an42 : Option Addr} {sl42 : Array (Option Value)} {oc42 kV42 dc42 pm42 cd42 ct42 : Value}
    {od43 an43 : Option Addr} {sl43 : Array (Option Value)} {oc43 kV43 dc43 pm43 cd43 ct43 : Value}
    {od44 an44 : Option Addr} {sl44 : Array (Option Value)} {oc44 kV44 dc44 pm44 cd44 ct44 : Value}
    {od45 an45 : Option Addr} {sl45 : Array (Option Value)} {oc45 kV45 dc45 pm45 cd45 ct45 : Value}
    {od46 an46 : Option Addr} {sl46 : Array (Option Value)} {oc46 kV46 dc46 pm46 cd46 ct46 : Value}
    {od47 an47 : Option Addr} {sl47 : Array (Option Value)} {oc47 kV47 dc47 pm47 cd47 ct47 : Value}
    {od48 an48 : Option Addr} {sl48 : Array (Option Value)} {oc48 kV48 dc48 pm48 cd48 ct48 : Value}
    {od49 an49 : Option Addr} {sl49 : Array (Option Value)} {oc49 kV49 dc49 pm49 cd49 ct49 : Value}
    {od50 an50 : Option Addr} {sl50 : Array (Option Value)} {oc50 kV50 dc50 pm50 cd50 ct50 : Value}
    {od51 an51 : Option Addr} {sl51 : Array (Option Value)} {oc51 kV51 dc51 pm51 cd51 ct51 : Value}

    (e0 : PySem.W.nsIn K mainGlobals "form" = some (some (.ref a0))) (l0 : K.lookup a0 = some ⟨oc0, od0, .func (PySem.W.fnOf "form" "form" (defArgs s0) (defBody s0) (defScope s0) .none kV0 dc0 pm0 an0 cd0 ct0), sl0⟩) (b0 : PySem.W.codeIn K cd0 "form" = true) (k0 : PySem.W.keepIn K (.ref a0) = true)
    (e1 : PySem.W.nsIn K mainGlobals "variable" = some (some (.ref a1))) (l1 : K.lookup a1 = some ⟨oc1, od1, .func (PySem.W.fnOf "variable" "variable" (defArgs s1) (defBody s1) (defScope s1) .none kV1 dc1 pm1 an1 cd1 ct1), sl1⟩) (b1 : PySem.W.codeIn K cd1 "variable" = true) (k1 : PySem.W.keepIn K (.ref a1) = true)
    (e2 : PySem.W.nsIn K mainGlobals "plus" = some (some (.ref a2))) (l2 : K.lookup a2 = some ⟨oc2, od2, .func (PySem.W.fnOf "plus" "plus" (defArgs s2) (defBody s2) (defScope s2) .none kV2 dc2 pm2 an2 cd2 ct2), sl2⟩) (b2 : PySem.W.codeIn K cd2 "plus" = true) (k2 : PySem.W.keepIn K (.ref a2) = true)
    (e3 : PySem.W.nsIn K mainGlobals "times" = some (some (.ref a3))) (l3 : K.lookup a3 = some ⟨oc3, od3, .func (PySem.W.fnOf "times" "times" (defArgs s3) (defBody s3) (defScope s3) .none kV3 dc3 pm3 an3 cd3 ct3), sl3⟩) (b3 : PySem.W.codeIn K cd3 "times" = true) (k3 : PySem.W.keepIn K (.ref a3) = true)
    (e4 : PySem.W.nsIn K mainGlobals "minus" = some (some (.ref a4))) (l4 : K.lookup a4 = some ⟨oc4, od4, .func (PySem.W.fnOf "minus" "minus" (defArgs s4) (defBody s4) (defScope s4) .none kV4 dc4 pm4 an4 cd4 ct4), sl4⟩) (b4 : PySem.W.codeIn K cd4 "minus" = true) (k4 : PySem.W.keepIn K (.ref a4) = true)
    (e5 : PySem.W.nsIn K mainGlobals "statements_in" = some (some (.ref a5))) (l5 : K.lookup a5 = some ⟨oc5, od5, .func (PySem.W.fnOf "statements_in" "statements_in" (defArgs s5) (defBody s5) (defScope s5) .none kV5 dc5 pm5 an5 cd5 ct5), sl5⟩) (b5 : PySem.W.codeIn K cd5 "statements_in" = true) (k5 : PySem.W.keepIn K (.ref a5) = true)
    (e6 : PySem.W.nsIn K mainGlobals "proc_named" = some (some (.ref a6))) (l6 : K.lookup a6 = some ⟨oc6, od6, .func (PySem.W.fnOf "proc_named" "proc_named" (defArgs s6) (defBody s6) (defScope s6) .none kV6 dc6 pm6 an6 cd6 ct6), sl6⟩) (b6 : PySem.W.codeIn K cd6 "proc_named" = true) (k6 : PySem.W.keepIn K (.ref a6) = true)
    (e7 : PySem.W.nsIn K mainGlobals "assigned_in" = some (some (.ref a7))) (l7 : K.lookup a7 = some ⟨oc7, od7, .func (PySem.W.fnOf "assigned_in" "assigned_in" (defArgs s7) (defBody s7) (defScope s7) .none kV7 dc7 pm7 an7 cd7 ct7), sl7⟩) (b7 : PySem.W.codeIn K cd7 "assigned_in" = true) (k7 : PySem.W.keepIn K (.ref a7) = true)
    (e8 : PySem.W.nsIn K mainGlobals "passed_on" = some (some (.ref a8))) (l8 : K.lookup a8 = some ⟨oc8, od8, .func (PySem.W.fnOf "passed_on" "passed_on" (defArgs s8) (defBody s8) (defScope s8) .none kV8 dc8 pm8 an8 cd8 ct8), sl8⟩) (b8 : PySem.W.codeIn K cd8 "passed_on" = true) (k8 : PySem.W.keepIn K (.ref a8) = true)
    (e9 : PySem.W.nsIn K mainGlobals "moving_table" = some (some (.ref a9))) (l9 : K.lookup a9 = some ⟨oc9, od9, .func (PySem.W.fnOf "moving_table" "moving_table" (defArgs s9) (defBody s9) (defScope s9) .none kV9 dc9 pm9 an9 cd9 ct9), sl9⟩) (b9 : PySem.W.codeIn K cd9 "moving_table" = true) (k9 : PySem.W.keepIn K (.ref a9) = true)
    (e10 : PySem.W.nsIn K mainGlobals "variable_of" = some (some (.ref a10))) (l10 : K.lookup a10 = some ⟨oc10, od10, .func (PySem.W.fnOf "variable_of" "variable_of" (defArgs s10) (defBody s10) (defScope s10) .none kV10 dc10 pm10 an10 cd10 ct10), sl10⟩) (b10 : PySem.W.codeIn K cd10 "variable_of" = true) (k10 : PySem.W.keepIn K (.ref a10) = true)
    (e11 : PySem.W.nsIn K mainGlobals "moving_items" = some (some (.ref a11))) (l11 : K.lookup a11 = some ⟨oc11, od11, .func (PySem.W.fnOf "moving_items" "moving_items" (defArgs s11) (defBody s11) (defScope s11) .none kV11 dc11 pm11 an11 cd11 ct11), sl11⟩) (b11 : PySem.W.codeIn K cd11 "moving_items" = true) (k11 : PySem.W.keepIn K (.ref a11) = true)
    (e12 : PySem.W.nsIn K mainGlobals "states_of_proc" = some (some (.ref a12))) (l12 : K.lookup a12 = some ⟨oc12, od12, .func (PySem.W.fnOf "states_of_proc" "states_of_proc" (defArgs s12) (defBody s12) (defScope s12) .none kV12 dc12 pm12 an12 cd12 ct12), sl12⟩) (b12 : PySem.W.codeIn K cd12 "states_of_proc" = true) (k12 : PySem.W.keepIn K (.ref a12) = true)
    (e13 : PySem.W.nsIn K mainGlobals "states_of" = some (some (.ref a13))) (l13 : K.lookup a13 = some ⟨oc13, od13, .func (PySem.W.fnOf "states_of" "states_of" (defArgs s13) (defBody s13) (defScope s13) .none kV13 dc13 pm13 an13 cd13 ct13), sl13⟩) (b13 : PySem.W.codeIn K cd13 "states_of" = true) (k13 : PySem.W.keepIn K (.ref a13) = true)
    (e14 : PySem.W.nsIn K mainGlobals "without_doubles" = some (some (.ref a14))) (l14 : K.lookup a14 = some ⟨oc14, od14, .func (PySem.W.fnOf "without_doubles" "without_doubles" (defArgs s14) (defBody s14) (defScope s14) .none kV14 dc14 pm14 an14 cd14 ct14), sl14⟩) (b14 : PySem.W.codeIn K cd14 "without_doubles" = true) (k14 : PySem.W.keepIn K (.ref a14) = true)
    (e15 : PySem.W.nsIn K mainGlobals "comparisons_of" = some (some (.ref a15))) (l15 : K.lookup a15 = some ⟨oc15, od15, .func (PySem.W.fnOf "comparisons_of" "comparisons_of" (defArgs s15) (defBody s15) (defScope s15) .none kV15 dc15 pm15 an15 cd15 ct15), sl15⟩) (b15 : PySem.W.codeIn K cd15 "comparisons_of" = true) (k15 : PySem.W.keepIn K (.ref a15) = true)
    (e16 : PySem.W.nsIn K mainGlobals "plain_form" = some (some (.ref a16))) (l16 : K.lookup a16 = some ⟨oc16, od16, .func (PySem.W.fnOf "plain_form" "plain_form" (defArgs s16) (defBody s16) (defScope s16) .none kV16 dc16 pm16 an16 cd16 ct16), sl16⟩) (b16 : PySem.W.codeIn K cd16 "plain_form" = true) (k16 : PySem.W.keepIn K (.ref a16) = true)
    (e17 : PySem.W.nsIn K mainGlobals "comparison_forms" = some (some (.ref a17))) (l17 : K.lookup a17 = some ⟨oc17, od17, .func (PySem.W.fnOf "comparison_forms" "comparison_forms" (defArgs s17) (defBody s17) (defScope s17) .none kV17 dc17 pm17 an17 cd17 ct17), sl17⟩) (b17 : PySem.W.codeIn K cd17 "comparison_forms" = true) (k17 : PySem.W.keepIn K (.ref a17) = true)
    (e18 : PySem.W.nsIn K mainGlobals "is_steady" = some (some (.ref a18))) (l18 : K.lookup a18 = some ⟨oc18, od18, .func (PySem.W.fnOf "is_steady" "is_steady" (defArgs s18) (defBody s18) (defScope s18) .none kV18 dc18 pm18 an18 cd18 ct18), sl18⟩) (b18 : PySem.W.codeIn K cd18 "is_steady" = true) (k18 : PySem.W.keepIn K (.ref a18) = true)
    (e19 : PySem.W.nsIn K mainGlobals "set_forms" = some (some (.ref a19))) (l19 : K.lookup a19 = some ⟨oc19, od19, .func (PySem.W.fnOf "set_forms" "set_forms" (defArgs s19) (defBody s19) (defScope s19) .none kV19 dc19 pm19 an19 cd19 ct19), sl19⟩) (b19 : PySem.W.codeIn K cd19 "set_forms" = true) (k19 : PySem.W.keepIn K (.ref a19) = true)
    (e20 : PySem.W.nsIn K mainGlobals "differences" = some (some (.ref a20))) (l20 : K.lookup a20 = some ⟨oc20, od20, .func (PySem.W.fnOf "differences" "differences" (defArgs s20) (defBody s20) (defScope s20) .none kV20 dc20 pm20 an20 cd20 ct20), sl20⟩) (b20 : PySem.W.codeIn K cd20 "differences" = true) (k20 : PySem.W.keepIn K (.ref a20) = true)
    (e21 : PySem.W.nsIn K mainGlobals "point_candidates" = some (some (.ref a21))) (l21 : K.lookup a21 = some ⟨oc21, od21, .func (PySem.W.fnOf "point_candidates" "point_candidates" (defArgs s21) (defBody s21) (defScope s21) .none kV21 dc21 pm21 an21 cd21 ct21), sl21⟩) (b21 : PySem.W.codeIn K cd21 "point_candidates" = true) (k21 : PySem.W.keepIn K (.ref a21) = true)
    (e22 : PySem.W.nsIn K mainGlobals "differences_of" = some (some (.ref a22))) (l22 : K.lookup a22 = some ⟨oc22, od22, .func (PySem.W.fnOf "differences_of" "differences_of" (defArgs s22) (defBody s22) (defScope s22) .none kV22 dc22 pm22 an22 cd22 ct22), sl22⟩) (b22 : PySem.W.codeIn K cd22 "differences_of" = true) (k22 : PySem.W.keepIn K (.ref a22) = true)
    (e23 : PySem.W.nsIn K mainGlobals "_law_start" = some (some (.ref a23))) (l23 : K.lookup a23 = some ⟨oc23, od23, .func (PySem.W.fnOf "_law_start" "_law_start" (defArgs s23) (defBody s23) (defScope s23) .none kV23 dc23 pm23 an23 cd23 ct23), sl23⟩) (b23 : PySem.W.codeIn K cd23 "_law_start" = true) (k23 : PySem.W.keepIn K (.ref a23) = true)
    (e24 : PySem.W.nsIn K mainGlobals "_law_draw" = some (some (.ref a24))) (l24 : K.lookup a24 = some ⟨oc24, od24, .func (PySem.W.fnOf "_law_draw" "_law_draw" (defArgs s24) (defBody s24) (defScope s24) .none kV24 dc24 pm24 an24 cd24 ct24), sl24⟩) (b24 : PySem.W.codeIn K cd24 "_law_draw" = true) (k24 : PySem.W.keepIn K (.ref a24) = true)
    (e25 : PySem.W.nsIn K mainGlobals "_law_one_of" = some (some (.ref a25))) (l25 : K.lookup a25 = some ⟨oc25, od25, .func (PySem.W.fnOf "_law_one_of" "_law_one_of" (defArgs s25) (defBody s25) (defScope s25) .none kV25 dc25 pm25 an25 cd25 ct25), sl25⟩) (b25 : PySem.W.codeIn K cd25 "_law_one_of" = true) (k25 : PySem.W.keepIn K (.ref a25) = true)
    (e26 : PySem.W.nsIn K mainGlobals "_law_shuffled" = some (some (.ref a26))) (l26 : K.lookup a26 = some ⟨oc26, od26, .func (PySem.W.fnOf "_law_shuffled" "_law_shuffled" (defArgs s26) (defBody s26) (defScope s26) .none kV26 dc26 pm26 an26 cd26 ct26), sl26⟩) (b26 : PySem.W.codeIn K cd26 "_law_shuffled" = true) (k26 : PySem.W.keepIn K (.ref a26) = true)
    (e27 : PySem.W.nsIn K mainGlobals "_law_words" = some (some (.ref a27))) (l27 : K.lookup a27 = some ⟨oc27, od27, .func (PySem.W.fnOf "_law_words" "_law_words" (defArgs s27) (defBody s27) (defScope s27) .none kV27 dc27 pm27 an27 cd27 ct27), sl27⟩) (b27 : PySem.W.codeIn K cd27 "_law_words" = true) (k27 : PySem.W.keepIn K (.ref a27) = true)
    (e28 : PySem.W.nsIn K mainGlobals "_law_is_int" = some (some (.ref a28))) (l28 : K.lookup a28 = some ⟨oc28, od28, .func (PySem.W.fnOf "_law_is_int" "_law_is_int" (defArgs s28) (defBody s28) (defScope s28) .none kV28 dc28 pm28 an28 cd28 ct28), sl28⟩) (b28 : PySem.W.codeIn K cd28 "_law_is_int" = true) (k28 : PySem.W.keepIn K (.ref a28) = true)
    (e29 : PySem.W.nsIn K mainGlobals "_law_same" = some (some (.ref a29))) (l29 : K.lookup a29 = some ⟨oc29, od29, .func (PySem.W.fnOf "_law_same" "_law_same" (defArgs s29) (defBody s29) (defScope s29) .none kV29 dc29 pm29 an29 cd29 ct29), sl29⟩) (b29 : PySem.W.codeIn K cd29 "_law_same" = true) (k29 : PySem.W.keepIn K (.ref a29) = true)
    (e30 : PySem.W.nsIn K mainGlobals "_law_form" = some (some (.ref a30))) (l30 : K.lookup a30 = some ⟨oc30, od30, .func (PySem.W.fnOf "_law_form" "_law_form" (defArgs s30) (defBody s30) (defScope s30) .none kV30 dc30 pm30 an30 cd30 ct30), sl30⟩) (b30 : PySem.W.codeIn K cd30 "_law_form" = true) (k30 : PySem.W.keepIn K (.ref a30) = true)
    (e31 : PySem.W.nsIn K mainGlobals "_law_sum" = some (some (.ref a31))) (l31 : K.lookup a31 = some ⟨oc31, od31, .func (PySem.W.fnOf "_law_sum" "_law_sum" (defArgs s31) (defBody s31) (defScope s31) .none kV31 dc31 pm31 an31 cd31 ct31), sl31⟩) (b31 : PySem.W.codeIn K cd31 "_law_sum" = true) (k31 : PySem.W.keepIn K (.ref a31) = true)
    (e32 : PySem.W.nsIn K mainGlobals "_law_var" = some (some (.ref a32))) (l32 : K.lookup a32 = some ⟨oc32, od32, .func (PySem.W.fnOf "_law_var" "_law_var" (defArgs s32) (defBody s32) (defScope s32) .none kV32 dc32 pm32 an32 cd32 ct32), sl32⟩) (b32 : PySem.W.codeIn K cd32 "_law_var" = true) (k32 : PySem.W.keepIn K (.ref a32) = true)
    (e33 : PySem.W.nsIn K mainGlobals "_law_names" = some (some (.ref a33))) (l33 : K.lookup a33 = some ⟨oc33, od33, .func (PySem.W.fnOf "_law_names" "_law_names" (defArgs s33) (defBody s33) (defScope s33) .none kV33 dc33 pm33 an33 cd33 ct33), sl33⟩) (b33 : PySem.W.codeIn K cd33 "_law_names" = true) (k33 : PySem.W.keepIn K (.ref a33) = true)
    (e34 : PySem.W.nsIn K mainGlobals "_law_key" = some (some (.ref a34))) (l34 : K.lookup a34 = some ⟨oc34, od34, .func (PySem.W.fnOf "_law_key" "_law_key" (defArgs s34) (defBody s34) (defScope s34) .none kV34 dc34 pm34 an34 cd34 ct34), sl34⟩) (b34 : PySem.W.codeIn K cd34 "_law_key" = true) (k34 : PySem.W.keepIn K (.ref a34) = true)
    (e35 : PySem.W.nsIn K mainGlobals "_law_statements" = some (some (.ref a35))) (l35 : K.lookup a35 = some ⟨oc35, od35, .func (PySem.W.fnOf "_law_statements" "_law_statements" (defArgs s35) (defBody s35) (defScope s35) .none kV35 dc35 pm35 an35 cd35 ct35), sl35⟩) (b35 : PySem.W.codeIn K cd35 "_law_statements" = true) (k35 : PySem.W.keepIn K (.ref a35) = true)
    (e36 : PySem.W.nsIn K mainGlobals "_law_moves" = some (some (.ref a36))) (l36 : K.lookup a36 = some ⟨oc36, od36, .func (PySem.W.fnOf "_law_moves" "_law_moves" (defArgs s36) (defBody s36) (defScope s36) .none kV36 dc36 pm36 an36 cd36 ct36), sl36⟩) (b36 : PySem.W.codeIn K cd36 "_law_moves" = true) (k36 : PySem.W.keepIn K (.ref a36) = true)
    (e37 : PySem.W.nsIn K mainGlobals "_law_states" = some (some (.ref a37))) (l37 : K.lookup a37 = some ⟨oc37, od37, .func (PySem.W.fnOf "_law_states" "_law_states" (defArgs s37) (defBody s37) (defScope s37) .none kV37 dc37 pm37 an37 cd37 ct37), sl37⟩) (b37 : PySem.W.codeIn K cd37 "_law_states" = true) (k37 : PySem.W.keepIn K (.ref a37) = true)
    (e38 : PySem.W.nsIn K mainGlobals "_law_wild_head" = some (some (.ref a38))) (l38 : K.lookup a38 = some ⟨oc38, od38, .func (PySem.W.fnOf "_law_wild_head" "_law_wild_head" (defArgs s38) (defBody s38) (defScope s38) .none kV38 dc38 pm38 an38 cd38 ct38), sl38⟩) (b38 : PySem.W.codeIn K cd38 "_law_wild_head" = true) (k38 : PySem.W.keepIn K (.ref a38) = true)
    (e39 : PySem.W.nsIn K mainGlobals "_law_wild_value" = some (some (.ref a39))) (l39 : K.lookup a39 = some ⟨oc39, od39, .func (PySem.W.fnOf "_law_wild_value" "_law_wild_value" (defArgs s39) (defBody s39) (defScope s39) .none kV39 dc39 pm39 an39 cd39 ct39), sl39⟩) (b39 : PySem.W.codeIn K cd39 "_law_wild_value" = true) (k39 : PySem.W.keepIn K (.ref a39) = true)
    (e40 : PySem.W.nsIn K mainGlobals "_law_wild_call" = some (some (.ref a40))) (l40 : K.lookup a40 = some ⟨oc40, od40, .func (PySem.W.fnOf "_law_wild_call" "_law_wild_call" (defArgs s40) (defBody s40) (defScope s40) .none kV40 dc40 pm40 an40 cd40 ct40), sl40⟩) (b40 : PySem.W.codeIn K cd40 "_law_wild_call" = true) (k40 : PySem.W.keepIn K (.ref a40) = true)
    (e41 : PySem.W.nsIn K mainGlobals "_law_wild_test" = some (some (.ref a41))) (l41 : K.lookup a41 = some ⟨oc41, od41, .func (PySem.W.fnOf "_law_wild_test" "_law_wild_test" (defArgs s41) (defBody s41) (defScope s41) .none kV41 dc41 pm41 an41 cd41 ct41), sl41⟩) (b41 : PySem.W.codeIn K cd41 "_law_wild_test" = true) (k41 : PySem.W.keepIn K (.ref a41) = true)
    (e42 : PySem.W.nsIn K mainGlobals "_law_wild_statement" = some (some (.ref a42))) (l42 : K.lookup a42 = some ⟨oc42, od42, .func (PySem.W.fnOf "_law_wild_statement" "_law_wild_statement" (defArgs s42) (defBody s42) (defScope s42) .none kV42 dc42 pm42 an42 cd42 ct42), sl42⟩) (b42 : PySem.W.codeIn K cd42 "_law_wild_statement" = true) (k42 : PySem.W.keepIn K (.ref a42) = true)
    (e43 : PySem.W.nsIn K mainGlobals "_law_wild_block" = some (some (.ref a43))) (l43 : K.lookup a43 = some ⟨oc43, od43, .func (PySem.W.fnOf "_law_wild_block" "_law_wild_block" (defArgs s43) (defBody s43) (defScope s43) .none kV43 dc43 pm43 an43 cd43 ct43), sl43⟩) (b43 : PySem.W.codeIn K cd43 "_law_wild_block" = true) (k43 : PySem.W.keepIn K (.ref a43) = true)
    (e44 : PySem.W.nsIn K mainGlobals "_law_wild_core" = some (some (.ref a44))) (l44 : K.lookup a44 = some ⟨oc44, od44, .func (PySem.W.fnOf "_law_wild_core" "_law_wild_core" (defArgs s44) (defBody s44) (defScope s44) .none kV44 dc44 pm44 an44 cd44 ct44), sl44⟩) (b44 : PySem.W.codeIn K cd44 "_law_wild_core" = true) (k44 : PySem.W.keepIn K (.ref a44) = true)
    (e45 : PySem.W.nsIn K mainGlobals "_law_plainly" = some (some (.ref a45))) (l45 : K.lookup a45 = some ⟨oc45, od45, .func (PySem.W.fnOf "_law_plainly" "_law_plainly" (defArgs s45) (defBody s45) (defScope s45) .none kV45 dc45 pm45 an45 cd45 ct45), sl45⟩) (b45 : PySem.W.codeIn K cd45 "_law_plainly" = true) (k45 : PySem.W.keepIn K (.ref a45) = true)
    (e46 : PySem.W.nsIn K mainGlobals "_law_comparisons" = some (some (.ref a46))) (l46 : K.lookup a46 = some ⟨oc46, od46, .func (PySem.W.fnOf "_law_comparisons" "_law_comparisons" (defArgs s46) (defBody s46) (defScope s46) .none kV46 dc46 pm46 an46 cd46 ct46), sl46⟩) (b46 : PySem.W.codeIn K cd46 "_law_comparisons" = true) (k46 : PySem.W.keepIn K (.ref a46) = true)
    (e47 : PySem.W.nsIn K mainGlobals "_law_both_ways" = some (some (.ref a47))) (l47 : K.lookup a47 = some ⟨oc47, od47, .func (PySem.W.fnOf "_law_both_ways" "_law_both_ways" (defArgs s47) (defBody s47) (defScope s47) .none kV47 dc47 pm47 an47 cd47 ct47), sl47⟩) (b47 : PySem.W.codeIn K cd47 "_law_both_ways" = true) (k47 : PySem.W.keepIn K (.ref a47) = true)
    (e48 : PySem.W.nsIn K mainGlobals "_law_due" = some (some (.ref a48))) (l48 : K.lookup a48 = some ⟨oc48, od48, .func (PySem.W.fnOf "_law_due" "_law_due" (defArgs s48) (defBody s48) (defScope s48) .none kV48 dc48 pm48 an48 cd48 ct48), sl48⟩) (b48 : PySem.W.codeIn K cd48 "_law_due" = true) (k48 : PySem.W.keepIn K (.ref a48) = true)
    (e49 : PySem.W.nsIn K mainGlobals "_law_steady" = some (some (.ref a49))) (l49 : K.lookup a49 = some ⟨oc49, od49, .func (PySem.W.fnOf "_law_steady" "_law_steady" (defArgs s49) (defBody s49) (defScope s49) .none kV49 dc49 pm49 an49 cd49 ct49), sl49⟩) (b49 : PySem.W.codeIn K cd49 "_law_steady" = true) (k49 : PySem.W.keepIn K (.ref a49) = true)
    (e50 : PySem.W.nsIn K mainGlobals "_law_hinted" = some (some (.ref a50))) (l50 : K.lookup a50 = some ⟨oc50, od50, .func (PySem.W.fnOf "_law_hinted" "_law_hinted" (defArgs s50) (defBody s50) (defScope s50) .none kV50 dc50 pm50 an50 cd50 ct50), sl50⟩) (b50 : PySem.W.codeIn K cd50 "_law_hinted" = true) (k50 : PySem.W.keepIn K (.ref a50) = true)
    (e51 : PySem.W.nsIn K mainGlobals "law" = some (some (.ref a51))) (l51 : K.lookup a51 = some ⟨oc51, od51, .func (PySem.W.fnOf "law" "law" (defArgs s51) (defBody s51) (defScope s51) .none kV51 dc51 pm51 an51 cd51 ct51), sl51⟩) (b51 : PySem.W.codeIn K cd51 "law" = true) (k51 : PySem.W.keepIn K (.ref a51) = true)
    {tT0_0 : Nat}
    {T0_1 : Addr} {odT0_1 : Option Addr} {slT0_1 : Array (Option Value)} {nT0_1 : Nat} (lT0_1 : K.lookup T0_1 = some ⟨.type "tuple", odT0_1, .seq #[] nT0_1, slT0_1⟩)
    {T0 : Addr} {odT0 : Option Addr} {slT0 : Array (Option Value)} {nT0 : Nat} (lT0 : K.lookup T0 = some ⟨.type "tuple", odT0, .seq #[.int 0 tT0_0, .ref T0_1] nT0, slT0⟩)
    (gv0 : PySem.W.nsIn K mainGlobals "ZERO" = some (some (.ref T0)))
    {tT1_0 : Nat}
    {T1_1 : Addr} {odT1_1 : Option Addr} {slT1_1 : Array (Option Value)} {nT1_1 : Nat} (lT1_1 : K.lookup T1_1 = some ⟨.type "tuple", odT1_1, .seq #[] nT1_1, slT1_1⟩)
    {T1 : Addr} {odT1 : Option Addr} {slT1 : Array (Option Value)} {nT1 : Nat} (lT1 : K.lookup T1 = some ⟨.type "tuple", odT1, .seq #[.int (-1) tT1_0, .ref T1_1] nT1, slT1⟩)
    (gv1 : PySem.W.nsIn K mainGlobals "MINUS_ONE" = some (some (.ref T1)))
    (n_len : PySem.W.nsIn K mainGlobals "len" = some none)
    (n_abs : PySem.W.nsIn K mainGlobals "abs" = some none)
    (n_tuple : PySem.W.nsIn K mainGlobals "tuple" = some none)
    (n_list : PySem.W.nsIn K mainGlobals "list" = some none)
    (n_int : PySem.W.nsIn K mainGlobals "int" = some none)
    (n_str : PySem.W.nsIn K mainGlobals "str" = some none)
    (n_ord : PySem.W.nsIn K mainGlobals "ord" = some none)
    (n_all : PySem.W.nsIn K mainGlobals "all" = some none)
    (n_any : PySem.W.nsIn K mainGlobals "any" = some none)
    (n_sum : PySem.W.nsIn K mainGlobals "sum" = some none)
    (n_divmod : PySem.W.nsIn K mainGlobals "divmod" = some none)
    (n_sorted : PySem.W.nsIn K mainGlobals "sorted" = some none)
    (n_isinstance : PySem.W.nsIn K mainGlobals "isinstance" = some none)
    (n_range : PySem.W.nsIn K mainGlobals "range" = some none)
    (n_enumerate : PySem.W.nsIn K mainGlobals "enumerate" = some none)
    (n_zip : PySem.W.nsIn K mainGlobals "zip" = some none)
    (n_bool : PySem.W.nsIn K mainGlobals "bool" = some none)
    (n_dict : PySem.W.nsIn K mainGlobals "dict" = some none)
    : ∃ fd : FuncData, (∀ (s : Shared) (v : Value), BindsTo s fd ⟨[v], []⟩ [("script", v)]) ∧ ∀ base : Heap, K.In base → base.Ns mainGlobals mg → FnOk (PySem.Challenge.rw_onlywhatmatters_k62_candidates).prog w K mg base (L2.CX (PySem.Challenge.rw_onlywhatmatters_k62_candidates).prog w) 120 fa fd ["script"] (Z.spLaw K) := by
  have e := hfa.symm.trans (PySem.W.mg_of X G e51)
  cases e
  let W : Z.Wo := ⟨K, fun i => ([a0, a1, a2, a3, a4, a5, a6, a7, a8, a9, a10, a11, a12, a13, a14, a15, a16, a17, a18, a19, a20, a21, a22, a23, a24, a25, a26, a27, a28, a29, a30, a31, a32, a33, a34, a35, a36, a37, a38, a39, a40, a41, a42, a43, a44, a45, a46, a47, a48, a49, a50, fa] : List Addr)[i]?, fun _ => none, fun c => ([] : List Addr)[c]?, fun _ => Str.empty⟩
  have D : ∀ f fn, tb.fns[f]? = some fn → Z.DefF W nm tb K mg f fn := fun f fn hf => by
    match f, hf with
    | 0, hf => cases hf; exact Z.def_mk (ps := P0) (N := N0) (st := s0) X G e0 l0 b0 k0 rfl rfl (fun _ _ _ _ _ _ us hl => match us, hl with | [_, _], _ => rfl) rfl rfl rfl (Z.scope_of o0) c0
    | 1, hf => cases hf; exact Z.def_mk (ps := P1) (N := N1) (st := s1) X G e1 l1 b1 k1 rfl rfl (fun _ _ _ _ _ _ us hl => match us, hl with | [_], _ => rfl) rfl rfl rfl (Z.scope_of o1) c1
    | 2, hf => cases hf; exact Z.def_mk (ps := P2) (N := N2) (st := s2) X G e2 l2 b2 k2 rfl rfl (fun _ _ _ _ _ _ us hl => match us, hl with | [_, _], _ => rfl) rfl rfl rfl (Z.scope_of o2) c2
    | 3, hf => cases hf; exact Z.def_mk (ps := P3) (N := N3) (st := s3) X G e3 l3 b3 k3 rfl rfl (fun _ _ _ _ _ _ us hl => match us, hl with | [_, _], _ => rfl) rfl rfl rfl (Z.scope_of o3) c3
    | 4, hf => cases hf; exact Z.def_mk (ps := P4) (N := N4) (st := s4) X G e4 l4 b4 k4 rfl rfl (fun _ _ _ _ _ _ us hl => match us, hl with | [_, _], _ => rfl) rfl rfl rfl (Z.scope_of o4) c4
    | 5, hf => cases hf; exact Z.def_mk (ps := P5) (N := N5) (st := s5) X G e5 l5 b5 k5 rfl rfl (fun _ _ _ _ _ _ us hl => match us, hl with | [_], _ => rfl) rfl rfl rfl (Z.scope_of o5) c5
    | 6, hf => cases hf; exact Z.def_mk (ps := P6) (N := N6) (st := s6) X G e6 l6 b6 k6 rfl rfl (fun _ _ _ _ _ _ us hl => match us, hl with | [_, _], _ => rfl) rfl rfl rfl (Z.scope_of o6) c6
    | 7, hf => cases hf; exact Z.def_mk (ps := P7) (N := N7) (st := s7) X G e7 l7 b7 k7 rfl rfl (fun _ _ _ _ _ _ us hl => match us, hl with | [_], _ => rfl) rfl rfl rfl (Z.scope_of o7) c7
    | 8, hf => cases hf; exact Z.def_mk (ps := P8) (N := N8) (st := s8) X G e8 l8 b8 k8 rfl rfl (fun _ _ _ _ _ _ us hl => match us, hl with | [_, _, _], _ => rfl) rfl rfl rfl (Z.scope_of o8) c8
    | 9, hf => cases hf; exact Z.def_mk (ps := P9) (N := N9) (st := s9) X G e9 l9 b9 k9 rfl rfl (fun _ _ _ _ _ _ us hl => match us, hl with | [_], _ => rfl) rfl rfl rfl (Z.scope_of o9) c9
    | 10, hf => cases hf; exact Z.def_mk (ps := P10) (N := N10) (st := s10) X G e10 l10 b10 k10 rfl rfl (fun _ _ _ _ _ _ us hl => match us, hl with | [_], _ => rfl) rfl rfl rfl (Z.scope_of o10) c10
    | 11, hf => cases hf; exact Z.def_mk (ps := P11) (N := N11) (st := s11) X G e11 l11 b11 k11 rfl rfl (fun _ _ _ _ _ _ us hl => match us, hl with | [_, _], _ => rfl) rfl rfl rfl (Z.scope_of o11) c11
    | 12, hf => cases hf; exact Z.def_mk (ps := P12) (N := N12) (st := s12) X G e12 l12 b12 k12 rfl rfl (fun _ _ _ _ _ _ us hl => match us, hl with | [_, _], _ => rfl) rfl rfl rfl (Z.scope_of o12) c12
    | 13, hf => cases hf; exact Z.def_mk (ps := P13) (N := N13) (st := s13) X G e13 l13 b13 k13 rfl rfl (fun _ _ _ _ _ _ us hl => match us, hl with | [_, _], _ => rfl) rfl rfl rfl (Z.scope_of o13) c13
    | 14, hf => cases hf; exact Z.def_mk (ps := P14) (N := N14) (st := s14) X G e14 l14 b14 k14 rfl rfl (fun _ _ _ _ _ _ us hl => match us, hl with | [_], _ => rfl) rfl rfl rfl (Z.scope_of o14) c14
    | 15, hf => cases hf; exact Z.def_mk (ps := P15) (N := N15) (st := s15) X G e15 l15 b15 k15 rfl rfl (fun _ _ _ _ _ _ us hl => match us, hl with | [_], _ => rfl) rfl rfl rfl (Z.scope_of o15) c15
    | 16, hf => cases hf; exact Z.def_mk (ps := P16) (N := N16) (st := s16) X G e16 l16 b16 k16 rfl rfl (fun _ _ _ _ _ _ us hl => match us, hl with | [_, _], _ => rfl) rfl rfl rfl (Z.scope_of o16) c16
    | 17, hf => cases hf; exact Z.def_mk (ps := P17) (N := N17) (st := s17) X G e17 l17 b17 k17 rfl rfl (fun _ _ _ _ _ _ us hl => match us, hl with | [_, _], _ => rfl) rfl rfl rfl (Z.scope_of o17) c17
    | 18, hf => cases hf; exact Z.def_mk (ps := P18) (N := N18) (st := s18) X G e18 l18 b18 k18 rfl rfl (fun _ _ _ _ _ _ us hl => match us, hl with | [_, _], _ => rfl) rfl rfl rfl (Z.scope_of o18) c18
    | 19, hf => cases hf; exact Z.def_mk (ps := P19) (N := N19) (st := s19) X G e19 l19 b19 k19 rfl rfl (fun _ _ _ _ _ _ us hl => match us, hl with | [_, _, _], _ => rfl) rfl rfl rfl (Z.scope_of o19) c19
    | 20, hf => cases hf; exact Z.def_mk (ps := P20) (N := N20) (st := s20) X G e20 l20 b20 k20 rfl rfl (fun _ _ _ _ _ _ us hl => match us, hl with | [_], _ => rfl) rfl rfl rfl (Z.scope_of o20) c20
    | 21, hf => cases hf; exact Z.def_mk (ps := P21) (N := N21) (st := s21) X G e21 l21 b21 k21 rfl rfl (fun _ _ _ _ _ _ us hl => match us, hl with | [_, _], _ => rfl) rfl rfl rfl (Z.scope_of o21) c21
    | 22, hf => cases hf; exact Z.def_mk (ps := P22) (N := N22) (st := s22) X G e22 l22 b22 k22 rfl rfl (fun _ _ _ _ _ _ us hl => match us, hl with | [_, _], _ => rfl) rfl rfl rfl (Z.scope_of o22) c22
    | 23, hf => cases hf; exact Z.def_mk (ps := P23) (N := N23) (st := s23) X G e23 l23 b23 k23 rfl rfl (fun _ _ _ _ _ _ us hl => match us, hl with | [_], _ => rfl) rfl rfl rfl (Z.scope_of o23) c23
    | 24, hf => cases hf; exact Z.def_mk (ps := P24) (N := N24) (st := s24) X G e24 l24 b24 k24 rfl rfl (fun _ _ _ _ _ _ us hl => match us, hl with | [_, _], _ => rfl) rfl rfl rfl (Z.scope_of o24) c24
    | 25, hf => cases hf; exact Z.def_mk (ps := P25) (N := N25) (st := s25) X G e25 l25 b25 k25 rfl rfl (fun _ _ _ _ _ _ us hl => match us, hl with | [_, _], _ => rfl) rfl rfl rfl (Z.scope_of o25) c25
    | 26, hf => cases hf; exact Z.def_mk (ps := P26) (N := N26) (st := s26) X G e26 l26 b26 k26 rfl rfl (fun _ _ _ _ _ _ us hl => match us, hl with | [_, _], _ => rfl) rfl rfl rfl (Z.scope_of o26) c26
    | 27, hf => cases hf; exact Z.def_mk (ps := P27) (N := N27) (st := s27) X G e27 l27 b27 k27 rfl rfl (fun _ _ _ _ _ _ us hl => match us, hl with | [_, _], _ => rfl) rfl rfl rfl (Z.scope_of o27) c27
    | 28, hf => cases hf; exact Z.def_mk (ps := P28) (N := N28) (st := s28) X G e28 l28 b28 k28 rfl rfl (fun _ _ _ _ _ _ us hl => match us, hl with | [_], _ => rfl) rfl rfl rfl (Z.scope_of o28) c28
    | 29, hf => cases hf; exact Z.def_mk (ps := P29) (N := N29) (st := s29) X G e29 l29 b29 k29 rfl rfl (fun _ _ _ _ _ _ us hl => match us, hl with | [_, _], _ => rfl) rfl rfl rfl (Z.scope_of o29) c29
    | 30, hf => cases hf; exact Z.def_mk (ps := P30) (N := N30) (st := s30) X G e30 l30 b30 k30 rfl rfl (fun _ _ _ _ _ _ us hl => match us, hl with | [_, _], _ => rfl) rfl rfl rfl (Z.scope_of o30) c30
    | 31, hf => cases hf; exact Z.def_mk (ps := P31) (N := N31) (st := s31) X G e31 l31 b31 k31 rfl rfl (fun _ _ _ _ _ _ us hl => match us, hl with | [_], _ => rfl) rfl rfl rfl (Z.scope_of o31) c31
    | 32, hf => cases hf; exact Z.def_mk (ps := P32) (N := N32) (st := s32) X G e32 l32 b32 k32 rfl rfl (fun _ _ _ _ _ _ us hl => match us, hl with | [_], _ => rfl) rfl rfl rfl (Z.scope_of o32) c32
    | 33, hf => cases hf; exact Z.def_mk (ps := P33) (N := N33) (st := s33) X G e33 l33 b33 k33 rfl rfl (fun _ _ _ _ _ _ us hl => match us, hl with | [_], _ => rfl) rfl rfl rfl (Z.scope_of o33) c33
    | 34, hf => cases hf; exact Z.def_mk (ps := P34) (N := N34) (st := s34) X G e34 l34 b34 k34 rfl rfl (fun _ _ _ _ _ _ us hl => match us, hl with | [_], _ => rfl) rfl rfl rfl (Z.scope_of o34) c34
    | 35, hf => cases hf; exact Z.def_mk (ps := P35) (N := N35) (st := s35) X G e35 l35 b35 k35 rfl rfl (fun _ _ _ _ _ _ us hl => match us, hl with | [_], _ => rfl) rfl rfl rfl (Z.scope_of o35) c35
    | 36, hf => cases hf; exact Z.def_mk (ps := P36) (N := N36) (st := s36) X G e36 l36 b36 k36 rfl rfl (fun _ _ _ _ _ _ us hl => match us, hl with | [_], _ => rfl) rfl rfl rfl (Z.scope_of o36) c36
    | 37, hf => cases hf; exact Z.def_mk (ps := P37) (N := N37) (st := s37) X G e37 l37 b37 k37 rfl rfl (fun _ _ _ _ _ _ us hl => match us, hl with | [_, _], _ => rfl) rfl rfl rfl (Z.scope_of o37) c37
    | 38, hf => cases hf; exact Z.def_mk (ps := P38) (N := N38) (st := s38) X G e38 l38 b38 k38 rfl rfl (fun _ _ _ _ _ _ us hl => match us, hl with | [_, _], _ => rfl) rfl rfl rfl (Z.scope_of o38) c38
    | 39, hf => cases hf; exact Z.def_mk (ps := P39) (N := N39) (st := s39) X G e39 l39 b39 k39 rfl rfl (fun _ _ _ _ _ _ us hl => match us, hl with | [_, _, _, _], _ => rfl) rfl rfl rfl (Z.scope_of o39) c39
    | 40, hf => cases hf; exact Z.def_mk (ps := P40) (N := N40) (st := s40) X G e40 l40 b40 k40 rfl rfl (fun _ _ _ _ _ _ us hl => match us, hl with | [_, _, _], _ => rfl) rfl rfl rfl (Z.scope_of o40) c40
    | 41, hf => cases hf; exact Z.def_mk (ps := P41) (N := N41) (st := s41) X G e41 l41 b41 k41 rfl rfl (fun _ _ _ _ _ _ us hl => match us, hl with | [_, _, _, _], _ => rfl) rfl rfl rfl (Z.scope_of o41) c41
    | 42, hf => cases hf; exact Z.def_mk (ps := P42) (N := N42) (st := s42) X G e42 l42 b42 k42 rfl rfl (fun _ _ _ _ _ _ us hl => match us, hl with | [_, _, _, _, _], _ => rfl) rfl rfl rfl (Z.scope_of o42) c42
    | 43, hf => cases hf; exact Z.def_mk (ps := P43) (N := N43) (st := s43) X G e43 l43 b43 k43 rfl rfl (fun _ _ _ _ _ _ us hl => match us, hl with | [_, _, _, _, _], _ => rfl) rfl rfl rfl (Z.scope_of o43) c43
    | 44, hf => cases hf; exact Z.def_mk (ps := P44) (N := N44) (st := s44) X G e44 l44 b44 k44 rfl rfl (fun _ _ _ _ _ _ us hl => match us, hl with | [_], _ => rfl) rfl rfl rfl (Z.scope_of o44) c44
    | 45, hf => cases hf; exact Z.def_mk (ps := P45) (N := N45) (st := s45) X G e45 l45 b45 k45 rfl rfl (fun _ _ _ _ _ _ us hl => match us, hl with | [_, _], _ => rfl) rfl rfl rfl (Z.scope_of o45) c45
    | 46, hf => cases hf; exact Z.def_mk (ps := P46) (N := N46) (st := s46) X G e46 l46 b46 k46 rfl rfl (fun _ _ _ _ _ _ us hl => match us, hl with | [_], _ => rfl) rfl rfl rfl (Z.scope_of o46) c46
    | 47, hf => cases hf; exact Z.def_mk (ps := P47) (N := N47) (st := s47) X G e47 l47 b47 k47 rfl rfl (fun _ _ _ _ _ _ us hl => match us, hl with | [_, _], _ => rfl) rfl rfl rfl (Z.scope_of o47) c47
    | 48, hf => cases hf; exact Z.def_mk (ps := P48) (N := N48) (st := s48) X G e48 l48 b48 k48 rfl rfl (fun _ _ _ _ _ _ us hl => match us, hl with | [_, _], _ => rfl) rfl rfl rfl (Z.scope_of o48) c48
    | 49, hf => cases hf; exact Z.def_mk (ps := P49) (N := N49) (st := s49) X G e49 l49 b49 k49 rfl rfl (fun _ _ _ _ _ _ us hl => match us, hl with | [_, _], _ => rfl) rfl rfl rfl (Z.scope_of o49) c49
    | 50, hf => cases hf; exact Z.def_mk (ps := P50) (N := N50) (st := s50) X G e50 l50 b50 k50 rfl rfl (fun _ _ _ _ _ _ us hl => match us, hl with | [_, _, _], _ => rfl) rfl rfl rfl (Z.scope_of o50) c50
    | 51, hf => cases hf; exact Z.def_mk (ps := P51) (N := N51) (st := s51) X G e51 l51 b51 k51 rfl rfl (fun _ _ _ _ _ _ us hl => match us, hl with | [_], _ => rfl) rfl rfl rfl (Z.scope_of o51) c51
    | j + 52, hf => simp [tb] at hf
  have EX : Z.ExF W nm tb K mg :=
    { xa := fun c C h => by
        match c, h with
        | j + 0, h => simp [W] at h
      cls := fun c x h => by
        match c, h with
        | j + 0, h => simp [nm] at h
      own := fun c C hc h => by
        match c, hc, h with
        | j + 0, _, h => simp [W] at h
      sub := fun c c' C C' h h' => by
        match c, c', h, h' with
        | j + 0, _, h, _ => simp [W] at h }
  have F : Z.Fac W nm tb K w mg :=
    { eK := rfl, flen := rfl
      gls := fun n d h => by
        match n, h with
        | 0, h => cases h; exact ⟨_, _, .ref T0, rfl, PySem.W.mg_of X G gv0, rfl, fun G => (by simp only [Z.Rep]; exact ⟨T0, [.int (0), .ref T0_1], rfl, .inr ⟨_, _, _, lT0, rfl, rfl, by rw [sizeLine_eq]; exact Nat.le_of_ble_eq_true rfl, (.cons ⟨_, rfl⟩ (.cons rfl .nil))⟩, by simp only [Z.Reps]; exact ⟨.int (0), _, rfl, Z.rep_int, ⟨.ref T0_1, _, rfl, (by simp only [Z.Rep]; exact ⟨T0_1, [], rfl, .inr ⟨_, _, _, lT0_1, rfl, rfl, by rw [sizeLine_eq]; exact Nat.le_of_ble_eq_true rfl, .nil⟩, by simp only [Z.Reps]⟩), rfl⟩⟩⟩)⟩
        | 1, h => cases h; exact ⟨_, _, .ref T1, rfl, PySem.W.mg_of X G gv1, rfl, fun G => (by simp only [Z.Rep]; exact ⟨T1, [.int (-1), .ref T1_1], rfl, .inr ⟨_, _, _, lT1, rfl, rfl, by rw [sizeLine_eq]; exact Nat.le_of_ble_eq_true rfl, (.cons ⟨_, rfl⟩ (.cons rfl .nil))⟩, by simp only [Z.Reps]; exact ⟨.int (-1), _, rfl, Z.rep_int, ⟨.ref T1_1, _, rfl, (by simp only [Z.Rep]; exact ⟨T1_1, [], rfl, .inr ⟨_, _, _, lT1_1, rfl, rfl, by rw [sizeLine_eq]; exact Nat.le_of_ble_eq_true rfl, .nil⟩, by simp only [Z.Reps]⟩), rfl⟩⟩⟩)⟩
        | j + 2, h => simp [tb, gls] at h
      blt := fun x hx => by
        simp only [Z.bltNames, List.mem_cons, List.not_mem_nil, or_false] at hx
        rcases hx with rfl | rfl | rfl | rfl | rfl | rfl | rfl | rfl | rfl | rfl | rfl | rfl | rfl | rfl | rfl | rfl | rfl | rfl
        · exact PySem.W.mg_none_of X G n_len
        · exact PySem.W.mg_none_of X G n_abs
        · exact PySem.W.mg_none_of X G n_tuple
        · exact PySem.W.mg_none_of X G n_list
        · exact PySem.W.mg_none_of X G n_int
        · exact PySem.W.mg_none_of X G n_str
        · exact PySem.W.mg_none_of X G n_ord
        · exact PySem.W.mg_none_of X G n_all
        · exact PySem.W.mg_none_of X G n_any
        · exact PySem.W.mg_none_of X G n_sum
        · exact PySem.W.mg_none_of X G n_divmod
        · exact PySem.W.mg_none_of X G n_sorted
        · exact PySem.W.mg_none_of X G n_isinstance
        · exact PySem.W.mg_none_of X G n_range
        · exact PySem.W.mg_none_of X G n_enumerate
        · exact PySem.W.mg_none_of X G n_zip
        · exact PySem.W.mg_none_of X G n_bool
        · exact PySem.W.mg_none_of X G n_dict
      fa := fun f a h => by
        have := (List.getElem?_eq_some_iff.mp h).1
        simpa [tb] using this
      exc := EX
      kds := ⟨fun g x h => by
        match g, h with
        | j + 0, h => simp [nm] at h⟩ }
  have B := fun base : Heap => Z.all_ok (P := (PySem.Challenge.rw_onlywhatmatters_k62_candidates).prog) (w := w) (base := base) F D 60 51 f51 rfl
  have BI : ∀ us : List Value, us.length = (["script"] : List Str).length → bindArgs (PySem.W.fnOf "law" "law" (defArgs s51) (defBody s51) (defScope s51) .none kV51 dc51 pm51 an51 cd51 ct51) ⟨us, []⟩ = pure ((["script"] : List Str).zip us) := fun us hl => match us, hl with | [_], _ => rfl
  refine ⟨PySem.W.fnOf "law" "law" (defArgs s51) (defBody s51) (defScope s51) .none kV51 dc51 pm51 an51 cd51 ct51, fun s v => .of_eq (BI [v] rfl), fun base hk hg => ?_⟩
  exact Z.law_end (B base) l51 rfl rfl rfl plain
end K62
open PySem PySem.W PyProof.Rows
set_option maxRecDepth 100000 in
set_option maxHeartbeats 0 in
theorem PySem.Challenge.cw_onlywhatmatters_k62_candidates_holds : PySem.Challenge.rw_onlywhatmatters_k62_candidates.Holds := by
  w_on; o_law; k_head; (case hw => w_witness2)
  k_fill
  refine Z.walk (l := PySem.Challenge.rw_onlywhatmatters_k62_candidates) (kk := 120) rfl rfl ⟨rfl, by decide, by decide⟩ (fun w h Y => PySem.W.kIn_of Y) ?F
  case F =>
    intro w mg fa h KX G hmg
    refine' K62.all_mk KX G hmg ?e0 ?l0 ?b0 ?k0 ?e1 ?l1 ?b1 ?k1 ?e2 ?l2 ?b2 ?k2 ?e3 ?l3 ?b3 ?k3 ?e4 ?l4 ?b4 ?k4 ?e5 ?l5 ?b5 ?k5 ?e6 ?l6 ?b6 ?k6 ?e7 ?l7 ?b7 ?k7 ?e8 ?l8 ?b8 ?k8 ?e9 ?l9 ?b9 ?k9 ?e10 ?l10 ?b10 ?k10 ?e11 ?l11 ?b11 ?k11 ?e12 ?l12 ?b12 ?k12 ?e13 ?l13 ?b13 ?k13 ?e14 ?l14 ?b14 ?k14 ?e15 ?l15 ?b15 ?k15 ?e16 ?l16 ?b16 ?k16 ?e17 ?l17 ?b17 ?k17 ?e18 ?l18 ?b18 ?k18 ?e19 ?l19 ?b19 ?k19 ?e20 ?l20 ?b20 ?k20 ?e21 ?l21 ?b21 ?k21 ?e22 ?l22 ?b22 ?k22 ?e23 ?l23 ?b23 ?k23 ?e24 ?l24 ?b24 ?k24 ?e25 ?l25 ?b25 ?k25 ?e26 ?l26 ?b26 ?k26 ?e27 ?l27 ?b27 ?k27 ?e28 ?l28 ?b28 ?k28 ?e29 ?l29 ?b29 ?k29 ?e30 ?l30 ?b30 ?k30 ?e31 ?l31 ?b31 ?k31 ?e32 ?l32 ?b32 ?k32 ?e33 ?l33 ?b33 ?k33 ?e34 ?l34 ?b34 ?k34 ?e35 ?l35 ?b35 ?k35 ?e36 ?l36 ?b36 ?k36 ?e37 ?l37 ?b37 ?k37 ?e38 ?l38 ?b38 ?k38 ?e39 ?l39 ?b39 ?k39 ?e40 ?l40 ?b40 ?k40 ?e41 ?l41 ?b41 ?k41 ?e42 ?l42 ?b42 ?k42 ?e43 ?l43 ?b43 ?k43 ?e44 ?l44 ?b44 ?k44 ?e45 ?l45 ?b45 ?k45 ?e46 ?l46 ?b46 ?k46 ?e47 ?l47 ?b47 ?k47 ?e48 ?l48 ?b48 ?k48 ?e49 ?l49 ?b49 ?k49 ?e50 ?l50 ?b50 ?k50 ?e51 ?l51 ?b51 ?k51 ?lT0_1 ?lT0 ?gv0 ?lT1_1 ?lT1 ?gv1 ?n_len ?n_abs ?n_tuple ?n_list ?n_int ?n_str ?n_ord ?n_all ?n_any ?n_sum ?n_divmod ?n_sorted ?n_isinstance ?n_range ?n_enumerate ?n_zip ?n_bool ?n_dict
    (case e0 => k_is)
    (case l0 => k_is)
    (case b0 => k_is)
    (case k0 => k_is)
    (case e1 => k_is)
    (case l1 => k_is)
    (case b1 => k_is)
    (case k1 => k_is)
    (case e2 => k_is)
    (case l2 => k_is)
    (case b2 => k_is)
    (case k2 => k_is)
    (case e3 => k_is)
    (case l3 => k_is)
    (case b3 => k_is)
    (case k3 => k_is)
    (case e4 => k_is)
    (case l4 => k_is)
    (case b4 => k_is)
    (case k4 => k_is)
    (case e5 => k_is)
    (case l5 => k_is)
    (case b5 => k_is)
    (case k5 => k_is)
    (case e6 => k_is)
    (case l6 => k_is)
    (case b6 => k_is)
    (case k6 => k_is)
    (case e7 => k_is)
    (case l7 => k_is)
    (case b7 => k_is)
    (case k7 => k_is)
    (case e8 => k_is)
    (case l8 => k_is)
    (case b8 => k_is)
    (case k8 => k_is)
    (case e9 => k_is)
    (case l9 => k_is)
    (case b9 => k_is)
    (case k9 => k_is)
    (case e10 => k_is)
    (case l10 => k_is)
    (case b10 => k_is)
    (case k10 => k_is)
    (case e11 => k_is)
    (case l11 => k_is)
    (case b11 => k_is)
    (case k11 => k_is)
    (case e12 => k_is)
    (case l12 => k_is)
    (case b12 => k_is)
    (case k12 => k_is)
    (case e13 => k_is)
    (case l13 => k_is)
    (case b13 => k_is)
    (case k13 => k_is)
    (case e14 => k_is)
    (case l14 => k_is)
    (case b14 => k_is)
    (case k14 => k_is)
    (case e15 => k_is)
    (case l15 => k_is)
    (case b15 => k_is)
    (case k15 => k_is)
    (case e16 => k_is)
    (case l16 => k_is)
    (case b16 => k_is)
    (case k16 => k_is)
    (case e17 => k_is)
    (case l17 => k_is)
    (case b17 => k_is)
    (case k17 => k_is)
    (case e18 => k_is)
    (case l18 => k_is)
    (case b18 => k_is)
    (case k18 => k_is)
    (case e19 => k_is)
    (case l19 => k_is)
    (case b19 => k_is)
    (case k19 => k_is)
    (case e20 => k_is)
    (case l20 => k_is)
    (case b20 => k_is)
    (case k20 => k_is)
    (case e21 => k_is)
    (case l21 => k_is)
    (case b21 => k_is)
    (case k21 => k_is)
    (case e22 => k_is)
    (case l22 => k_is)
    (case b22 => k_is)
    (case k22 => k_is)
    (case e23 => k_is)
    (case l23 => k_is)
    (case b23 => k_is)
    (case k23 => k_is)
    (case e24 => k_is)
    (case l24 => k_is)
    (case b24 => k_is)
    (case k24 => k_is)
    (case e25 => k_is)
    (case l25 => k_is)
    (case b25 => k_is)
    (case k25 => k_is)
    (case e26 => k_is)
    (case l26 => k_is)
    (case b26 => k_is)
    (case k26 => k_is)
    (case e27 => k_is)
    (case l27 => k_is)
    (case b27 => k_is)
    (case k27 => k_is)
    (case e28 => k_is)
    (case l28 => k_is)
    (case b28 => k_is)
    (case k28 => k_is)
    (case e29 => k_is)
    (case l29 => k_is)
    (case b29 => k_is)
    (case k29 => k_is)
    (case e30 => k_is)
    (case l30 => k_is)
    (case b30 => k_is)
    (case k30 => k_is)
    (case e31 => k_is)
    (case l31 => k_is)
    (case b31 => k_is)
    (case k31 => k_is)
    (case e32 => k_is)
    (case l32 => k_is)
    (case b32 => k_is)
    (case k32 => k_is)
    (case e33 => k_is)
    (case l33 => k_is)
    (case b33 => k_is)
    (case k33 => k_is)
    (case e34 => k_is)
    (case l34 => k_is)
    (case b34 => k_is)
    (case k34 => k_is)
    (case e35 => k_is)
    (case l35 => k_is)
    (case b35 => k_is)
    (case k35 => k_is)
    (case e36 => k_is)
    (case l36 => k_is)
    (case b36 => k_is)
    (case k36 => k_is)
    (case e37 => k_is)
    (case l37 => k_is)
    (case b37 => k_is)
    (case k37 => k_is)
    (case e38 => k_is)
    (case l38 => k_is)
    (case b38 => k_is)
    (case k38 => k_is)
    (case e39 => k_is)
    (case l39 => k_is)
    (case b39 => k_is)
    (case k39 => k_is)
    (case e40 => k_is)
    (case l40 => k_is)
    (case b40 => k_is)
    (case k40 => k_is)
    (case e41 => k_is)
    (case l41 => k_is)
    (case b41 => k_is)
    (case k41 => k_is)
    (case e42 => k_is)
    (case l42 => k_is)
    (case b42 => k_is)
    (case k42 => k_is)
    (case e43 => k_is)
    (case l43 => k_is)
    (case b43 => k_is)
    (case k43 => k_is)
    (case e44 => k_is)
    (case l44 => k_is)
    (case b44 => k_is)
    (case k44 => k_is)
    (case e45 => k_is)
    (case l45 => k_is)
    (case b45 => k_is)
    (case k45 => k_is)
    (case e46 => k_is)
    (case l46 => k_is)
    (case b46 => k_is)
    (case k46 => k_is)
    (case e47 => k_is)
    (case l47 => k_is)
    (case b47 => k_is)
    (case k47 => k_is)
    (case e48 => k_is)
    (case l48 => k_is)
    (case b48 => k_is)
    (case k48 => k_is)
    (case e49 => k_is)
    (case l49 => k_is)
    (case b49 => k_is)
    (case k49 => k_is)
    (case e50 => k_is)
    (case l50 => k_is)
    (case b50 => k_is)
    (case k50 => k_is)
    (case e51 => k_is)
    (case l51 => k_is)
    (case b51 => k_is)
    (case k51 => k_is)
    (case n_len => k_is)
    (case n_abs => k_is)
    (case n_tuple => k_is)
    (case n_list => k_is)
    (case n_int => k_is)
    (case n_str => k_is)
    (case n_ord => k_is)
    (case n_all => k_is)
    (case n_any => k_is)
    (case n_sum => k_is)
    (case n_divmod => k_is)
    (case n_sorted => k_is)
    (case n_isinstance => k_is)
    (case n_range => k_is)
    (case n_enumerate => k_is)
    (case n_zip => k_is)
    (case n_bool => k_is)
    (case n_dict => k_is)
    (case gv0 => k_is)
    (case gv1 => k_is)
    (case lT0 => k_is)
    (case lT1 => k_is)
    (case lT0_1 => k_is)
    (case lT1_1 => k_is)
