import PyProof.Rows.All
import Wide.All
import OpenK.AllK
import Wide.FinOn
import HandS.ForMost
import KE.SortData
import KE.DataMinMax
import KE.DataFind
import KE.DatumOrd
import KE.KDictKeyed
import HandS.Dict
import HandS.Deep
import HandS.TupAny
import HandS.TupLe
import HandS.Style
import HandS.Walk
import HandS.Zip
import HandS.TupMul
import HandS.Comp
import KE.GoesEnum
import HandS.Codes
import HandS.IsInst
import HandS.TupSets
import HandS.Conv
import HandS.More
import HandS.HeadHook4
import HandS.HeadEnd
import HandS.Head0
import HandS.Head1
import HandS.Head2
import PySem.Challenge.RW_piecesplaced_k77_whole_armies_and_calm_p
set_option linter.all false
set_option autoImplicit false
set_option Elab.async false
/-! Pv.Ev: values D, the program's own form IE/IS, and what it computes (evE, evS, callF). -/
namespace Pv
open PySem

/-- a value, whole -/
inductive D where
  | non
  | bl (b : Bool)
  | int (i : Int)
  | str (s : Str)
  | tup (ds : List D)
  | lst (ds : List D)
  | dict (kvs : List (D × D))
  | ref (n : Nat)
  deriving Inhabited

mutual
/-- as the library's data -/
def D.toP : D → PyData
  | .non => .none
  | .bl b => .bool b
  | .int i => .int i
  | .str s => .str s
  | .tup ds => .tuple (D.toPs ds)
  | .lst ds => .list (D.toPs ds)
  | .dict _ => .none
  | .ref _ => .none
def D.toPs : List D → List PyData
  | [] => []
  | d :: ds => D.toP d :: D.toPs ds
end
mutual
/-- no dict and no shared thing within -/
def D.pl : D → Bool
  | .non => true
  | .bl _ => true
  | .int _ => true
  | .str _ => true
  | .tup ds => D.plL ds
  | .lst ds => D.plL ds
  | .dict _ => false
  | .ref _ => false
def D.plL : List D → Bool
  | [] => true
  | d :: ds => D.pl d && D.plL ds
end
mutual
def D.dep : D → Nat
  | .tup ds => D.depL ds + 1
  | .lst ds => D.depL ds + 1
  | _ => 0
def D.depL : List D → Nat
  | [] => 0
  | d :: ds => max (D.dep d) (D.depL ds)
end
mutual
/-- == -/
def D.eqv : D → D → Bool
  | .non, .non => true
  | .bl a, .bl b => a == b
  | .bl a, .int j => (if a then 1 else 0) == j
  | .int i, .bl b => i == (if b then 1 else 0)
  | .int a, .int b => a == b
  | .str a, .str b => a == b
  | .tup a, .tup b => D.eqvL a b
  | .lst a, .lst b => D.eqvL a b
  | _, _ => false
def D.eqvL : List D → List D → Bool
  | [], [] => true
  | x :: xs, y :: ys => D.eqv x y && D.eqvL xs ys
  | _, _ => false
end
mutual
/-- can be put in order, place by place -/
def D.ali : D → D → Bool
  | .non, .non => true
  | .bl _, .bl _ => true
  | .int _, .int _ => true
  | .str _, .str _ => true
  | .tup a, .tup b => D.aliL a b
  | .lst a, .lst b => D.aliL a b
  | _, _ => false
def D.aliL : List D → List D → Bool
  | x :: xs, y :: ys => D.ali x y && D.aliL xs ys
  | [], _ => true
  | _ :: _, [] => true
end
/-- <, of such -/
def D.lt (x y : D) : Bool := PySem.W.dataLt x.toP y.toP
/-- data without dicts, not too deep -/
def D.shp (d : D) : Bool := d.pl && decide (d.dep ≤ 60)

/-- a name's place: nothing yet; a value that stays; a list or dict of its own, that may be changed -/
inductive Sl where
  | un
  | fz (d : D)
  | ow (d : D)
  deriving Inhabited
/-- the names, the shared lists -/
structure S where
  sl : List Sl
  sh : List D

/-- what comes of a step: a value, an exception, or nothing is said -/
inductive R (α : Type) where
  | ok (a : α) (s : S)
  | ex (x : D) (s : S)
  | no
abbrev M (α : Type) := S → R α
def M.pure {α : Type} (a : α) : M α := fun s => .ok a s
def R.bind {α β : Type} : R α → (α → S → R β) → R β
  | .ok a s, f => f a s
  | .ex x s, _ => .ex x s
  | .no, _ => .no
def M.bind {α β : Type} (m : M α) (f : α → M β) : M β := fun s => (m s).bind fun a s' => f a s'
instance : Monad M where
  pure := M.pure
  bind := M.bind
def stuck {α : Type} : M α := fun _ => .no
def ofO {α : Type} : Option α → M α
  | some a => M.pure a
  | none => stuck

theorem M.pure_ap {α : Type} (a : α) (s : S) : (Pure.pure a : M α) s = .ok a s := rfl
theorem M.bind_ap {α β : Type} (m : M α) (f : α → M β) (s : S) : (m >>= f) s = (m s).bind fun a s' => f a s' := rfl

/-! ### names -/
def rdF (i : Nat) : M D := fun s => match s.sl[i]? with
  | some (.fz d) => .ok d s
  | some (.ow (.lst ds)) => .ok (.lst ds) { s with sl := s.sl.set i (.fz (.lst ds)) }
  | _ => .no
/-- a value, or the thing at a name as it will stand -/
inductive P where
  | dv (d : D)
  | sl (i : Nat)
def P.get (s : S) : P → Option D
  | .dv d => some d
  | .sl i => match s.sl[i]? with
    | some (.fz d) => some d
    | some (.ow d) => some d
    | _ => none
def peek (o : Option Nat) (m : M D) : M P := match o with
  | some i => fun s => match s.sl[i]? with
    | some (.fz _) => .ok (.sl i) s
    | some (.ow _) => .ok (.sl i) s
    | _ => .no
  | none => m >>= fun d => Pure.pure (.dv d)
def getP (p : P) : M D := fun s => match p.get s with
  | some d => .ok d s
  | none => .no
def getPs : List P → M (List D)
  | [] => Pure.pure []
  | p :: ps => getP p >>= fun d => getPs ps >>= fun ds => Pure.pure (d :: ds)

/-! ### built-in operations, by values -/
def lenOk {α : Type} (l : List α) : Bool := decide (l.length ≤ sizeLine)
def mkL (ds : List D) : Option D := if lenOk ds then some (.lst ds) else none
def mkT (ds : List D) : Option D := if lenOk ds then some (.tup ds) else none
def mkS (s : Str) : Option D := if s.length ≤ sizeLine then some (.str s) else none
def small (i : Int) : Bool := decide (-(2 ^ 64) < i) && decide (i < 2 ^ 64)
def idx62 (i : Int) : Bool := decide (-(2 ^ 62) ≤ i) && decide (i < 2 ^ 62)

def binD : Operator → D → D → Option D
  | .Add, .int i, .int j => some (.int (i + j))
  | .Add, .str a, .str b => if a.length + b.length ≤ sizeLine then some (.str (a ++ b)) else none
  | .Add, .tup a, .tup b => mkT (a ++ b)
  | .Add, .lst a, .lst b => mkL (a ++ b)
  | .Sub, .int i, .int j => some (.int (i - j))
  | .Mult, .int i, .int j => if small i || small j then some (.int (i * j)) else none
  | .Mult, .lst a, .int k => if idx62 k && decide (a.length * k.toNat ≤ sizeLine) then some (.lst (List.replicate k.toNat a).flatten) else none
  | .Mult, .tup a, .int k => if idx62 k && decide (a.length * k.toNat ≤ sizeLine) then some (.tup (List.replicate k.toNat a).flatten) else none
  | .Mult, .str a, .int k => if idx62 k && decide (a.length * k.toNat ≤ sizeLine) then some (.str ⟨(List.replicate k.toNat a.cps.toList).flatten.toArray⟩) else none
  | .FloorDiv, .int i, .int j => if decide (0 < j) && decide (j < 1073741824) then some (.int (i / j)) else none
  | .Mod, .int i, .int j => if decide (0 < j) then some (.int (i % j)) else none
  | .Pow, .int i, .int j => if decide (0 ≤ j) && decide (j ≤ 1000000) && decide (i.natAbs < 2 ^ 64) then some (.int (i ^ j.toNat)) else none
  | .LShift, .int i, .int j => if decide (0 ≤ j) && decide (j ≤ 1000000) && decide (i.natAbs < 2 ^ 64) then some (.int (i * 2 ^ j.toNat)) else none
  | .RShift, .int i, .int j => if decide (0 ≤ j) then some (.int (i / 2 ^ j.toNat)) else none
  | .BitAnd, .int i, .int j => some (.int (Builtin.bitAnd i j))
  | .BitOr, .int i, .int j => some (.int (Builtin.bitOr i j))
  | .BitXor, .int i, .int j => some (.int (Builtin.bitXor i j))
  | _, _, _ => none

def inL (x : D) (ds : List D) : Option Bool := if x.shp && D.plL ds && decide (D.depL ds ≤ 60) then some (ds.any fun d => d.eqv x) else none
/-! dicts of a name's own: first a mark (are the keys tuples), then the pairs -/
abbrev dct (t : Bool) (kvs : List (D × D)) : D := .dict ((.bl t, .non) :: kvs)
mutual
/-- ints, and tuples of such -/
def D.nums : D → Bool
  | .int _ => true
  | .tup ds => D.numsL ds
  | _ => false
def D.numsL : List D → Bool
  | [] => true
  | d :: ds => D.nums d && D.numsL ds
end
/-- fit for a key -/
def keyFit : Bool → D → Bool
  | false, .int _ => true
  | false, .str _ => true
  | true, .tup ds => D.numsL ds && decide ((D.tup ds).dep ≤ 8)
  | _, _ => false
def dLook (kvs : List (D × D)) (k : D) : Option D := (kvs.find? fun p => p.1.eqv k).map (·.2)
def dPut (kvs : List (D × D)) (k v : D) : List (D × D) := if kvs.any (fun p => p.1.eqv k) then kvs.map fun p => if p.1.eqv k then (p.1, v) else p else kvs ++ [(k, v)]
def inD : D → D → Option Bool
  | k, .dict ((.bl t, .non) :: kvs) => if keyFit t k then some (dLook kvs k).isSome else none
  | x, .lst ds => inL x ds
  | x, .tup ds => inL x ds
  | .str a, .str b => some (!(Builtin.Str.occurrences b a 0 b.length 1).isEmpty)
  | _, _ => none
def eqD (x y : D) : Option Bool := if x.shp && y.shp then some (x.eqv y) else none
def ordD (x y : D) : Option Bool := match x, y with
  | .int i, .int j => some (decide (i < j))
  | x, y => if x.ali y && x.shp && y.shp then (match x with | .non => none | _ => some (x.lt y)) else none
def isD : D → D → Option Bool
  | .non, .non => some true
  | .bl _, .non => some false
  | .int _, .non => some false
  | .str _, .non => some false
  | .tup _, .non => some false
  | .lst _, .non => some false
  | .bl a, .bl b => some (decide (a = b))
  | _, _ => none

def cmpD : CmpOp → D → D → Option Bool
  | .Eq, x, y => eqD x y
  | .NotEq, x, y => (eqD x y).map (!·)
  | .Lt, x, y => ordD x y
  | .Gt, x, y => ordD y x
  | .LtE, x, y => (ordD y x).map (!·)
  | .GtE, x, y => (ordD x y).map (!·)
  | .Is, x, y => isD x y
  | .IsNot, x, y => (isD x y).map (!·)
  | .In, x, y => inD x y
  | .NotIn, x, y => (inD x y).map (!·)

/-- the place that an index means -/
def atD {α : Type} (xs : List α) (i : Int) : Option α := L2.atI xs i
def idxI : D → Option Int
  | .int i => some i
  | .bl b => some (if b then 1 else 0)
  | _ => none
def idxD (sh : List D) : D → D → Option D
  | .lst ds, .int i => atD ds i
  | .tup ds, .int i => atD ds i
  | .tup ds, .bl b => atD ds (if b then 1 else 0)
  | .str s, .int i => if s.length ≤ sizeLine then (atD s.cps.toList i).map fun c => .str ⟨#[c]⟩ else none
  | .ref n, .int i => match sh[n]? with
    | some (.lst ds) => atD ds i
    | _ => none
  | .dict ((.bl t, .non) :: kvs), k => if keyFit t k then dLook kvs k else none
  | _, _ => none

def cutD {α : Type} (xs : List α) (lo hi : Option Int) : List α := (xs.drop (HT.sIx xs.length 0 lo)).take (HT.sIx xs.length xs.length hi - HT.sIx xs.length 0 lo)
def slcD (lo hi : Option Int) : D → Option D
  | .lst ds => some (.lst (cutD ds lo hi))
  | .tup ds => some (.tup (cutD ds lo hi))
  | .str s => if s.length ≤ sizeLine then some (.str ⟨(cutD s.cps.toList lo hi).toArray⟩) else none
  | _ => none
def revD : D → Option D
  | .lst ds => some (.lst ds.reverse)
  | .tup ds => some (.tup ds.reverse)
  | .str s => if s.length ≤ sizeLine then some (.str ⟨s.cps.toList.reverse.toArray⟩) else none
  | _ => none

def blsOf : List D → Option (List Bool)
  | [] => some []
  | .bl b :: ds => (blsOf ds).map (b :: ·)
  | _ :: _ => none
def intsOf : List D → Option (List Int)
  | [] => some []
  | .int i :: ds => (intsOf ds).map (i :: ·)
  | _ :: _ => none
def strsOf : List D → Option (List Str)
  | [] => some []
  | .str s :: ds => (strsOf ds).map (s :: ·)
  | _ :: _ => none
/-- what a tuple or list has -/
def itemsOf : D → Option (List D)
  | .lst ds => some ds
  | .tup ds => some ds
  | _ => none
def aliAll (ds : List D) : Bool := ds.all fun x => ds.all fun y => x.ali y
/-- all tuples with an item, or neither None nor tuples -/
def srtAll (ds : List D) : Bool :=
  (ds.all fun d => match d with | .tup (_ :: _) => true | _ => false) || ds.all fun d => match d with | .non => false | .tup _ => false | _ => true
def srtD (ds : List D) : Option (List D) :=
  if aliAll ds && srtAll ds && lenOk ds && D.plL ds && decide (D.depL ds ≤ 60) then some (ds.mergeSort (PySem.W.dataLe false D.toP)) else none

def lenD : List D → Option D
  | [.lst ds] => some (.int ds.length)
  | [.tup ds] => some (.int ds.length)
  | [.str s] => if s.length ≤ sizeLine then some (.int s.length) else none
  | _ => none
def tupleD : List D → Option D
  | [.lst ds] => some (.tup ds)
  | [.tup ds] => some (.tup ds)
  | _ => none
def listD : List D → Option D
  | [.lst ds] => some (.lst ds)
  | [.tup ds] => some (.lst ds)
  | _ => none
def allD : List D → Option D
  | [.lst ds] => (blsOf ds).map fun bs => .bl (bs.all id)
  | _ => none
def anyD : List D → Option D
  | [.lst ds] => (blsOf ds).map fun bs => .bl (bs.any id)
  | _ => none
def sumD : List D → Option D
  | [.lst ds] => (intsOf ds).map fun ns => .int ns.sum
  | _ => none
def absD : List D → Option D
  | [.int i] => some (.int (if i < 0 then -i else i))
  | _ => none
def intD : List D → Option D
  | [.int i] => some (.int i)
  | _ => none
def maxD : List D → Option D
  | [.int i, .int j] => some (.int (if j > i then j else i))
  | _ => none
def minD : List D → Option D
  | [.int i, .int j] => some (.int (if j < i then j else i))
  | _ => none
def sortedD : List D → Option D
  | [.lst ds] => (srtD ds).map .lst
  | _ => none
def joinD : List D → Option D
  | [.str a, .lst ds] => (strsOf ds).bind fun ss => if decide ((ss.map fun s => s.length).sum + ss.length * a.length ≤ 16777216) then some (.str (Txt.join a ss)) else none
  | _ => none
/-- what stands last at a key -/
def tabAt (ks : List (Int × Int)) (k : Int) (o : Option Int) : Option Int := ks.foldl (fun acc p => if k = p.1 then some p.2 else acc) o
def getOrD (ks : List (Int × Int)) : List D → Option D
  | [.int k, .int d] => some (.int ((tabAt ks k none).getD d))
  | _ => none
mutual
/-- tuples all the way down: fit for a set -/
def D.hsh : D → Bool
  | .tup ds => D.hshL ds
  | .lst _ => false
  | .dict _ => false
  | .ref _ => false
  | _ => true
def D.hshL : List D → Bool
  | [] => true
  | d :: ds => D.hsh d && D.hshL ds
end
def D.isTup : D → Bool
  | .tup _ => true
  | _ => false
/-- keys for a set: few, tuples, of one make -/
def setOk (ds : List D) : Bool := aliAll ds && decide (ds.length < 64) && ds.all (fun d => d.isTup && d.hsh && d.pl && decide (d.dep ≤ 8))
/-- each once, as first met -/
def dedD : List D → List D → List D
  | acc, [] => acc
  | acc, d :: ds => dedD (if acc.any (fun x => x.eqv d) then acc else acc ++ [d]) ds
def sortSetD : List D → Option D
  | [.lst ds] => if setOk ds then (srtD (dedD [] ds)).map .lst else none
  | [.tup ds] => if setOk ds then (srtD (dedD [] ds)).map .lst else none
  | _ => none
/-- the keys of a list of pairs (key, value) -/
def keysOf : List D → Option (List D)
  | [] => some []
  | .tup [k, _] :: ds => (keysOf ds).map (k :: ·)
  | _ :: _ => none
def sortDictD : List D → Option D
  | [.lst ds] => (keysOf ds).bind fun ks => if setOk ks then (srtD (dedD [] ks)).map .lst else none
  | _ => none
def lenSetD : List D → Option D
  | [.lst ds] => if setOk ds then some (.int (dedD [] ds).length) else none
  | _ => none
/-- the kind of a value, as isinstance takes it -/
inductive Ty where
  | int | bool | str | tuple | list
  deriving DecidableEq
def isiD (t : Ty) : List D → Option D
  | [.non] => some (.bl false)
  | [.bl _] => some (.bl (t == .int || t == .bool))
  | [.int _] => some (.bl (t == .int))
  | [.str _] => some (.bl (t == .str))
  | [.tup _] => some (.bl (t == .tuple))
  | [.lst _] => some (.bl (t == .list))
  | _ => none

/-- built-in functions and methods that only look -/
inductive Bi where
  | len | tuple | list | all | any | sum | abs | int | max | min | sorted | join
  | isi (t : Ty)
  | getOr (ks : List (Int × Int))
  | sortSet | sortDict | lenSet
  deriving DecidableEq
def biD : Bi → List D → Option D
  | .len => lenD
  | .tuple => tupleD
  | .list => listD
  | .all => allD
  | .any => anyD
  | .sum => sumD
  | .abs => absD
  | .int => intD
  | .max => maxD
  | .min => minD
  | .sorted => sortedD
  | .join => joinD
  | .isi t => isiD t
  | .getOr ks => getOrD ks
  | .sortSet => sortSetD
  | .sortDict => sortDictD
  | .lenSet => lenSetD

/-! ### the form -/
/-- a target -/
inductive Tg where
  | nm (i : Nat)
  | tp (ts : List Tg)

mutual
inductive IE where
  | loc (i : Nat)
  | con (d : D)
  | glob (g : Nat)
  | tup (es : IEs)
  | lst (es : IEs)
  | shl (es : IEs)
  | bin (op : Operator) (a b : IE)
  | neg (a : IE)
  | inv (a : IE)
  | not (a : IE)
  | cmp (op : CmpOp) (a b : IE)
  | chain (op op' : CmpOp) (a b c : IE)
  | and (a b : IE)
  | or (a b : IE)
  | ite (c a b : IE)
  | idx (a i : IE)
  | slc (a : IE) (lo hi : IO)
  | rev (a : IE)
  | comp (elt : IE) (tg : Tg) (it : IT) (cond : IO) (vs : List Nat)
  | call (f : Nat) (es : IEs)
  | bi (b : Bi) (es : IEs)
  | pop (i : Nat)
  | popAt (i : Nat) (e : IE)
  | dget (i : Nat) (k x : IE)
inductive IEs where
  | nil
  | cons (e : IE) (es : IEs)
inductive IO where
  | none
  | some (e : IE)
inductive IT where
  | each (e : IE)
  | rng1 (e : IE)
  | rng2 (a b : IE)
  | enum (e : IE)
  | zip (a b : IE)
end
def IE.slot? : IE → Option Nat
  | .loc i => some i
  | _ => none

/-- the program: what its defs do, and its constants -/
structure Cf where
  call : Nat → List D → M D
  cs : List D

mutual
def bindT : Tg → D → List Sl → Option (List Sl)
  | .nm i, d, sl => if i < sl.length then some (sl.set i (.fz d)) else none
  | .tp ts, .tup ds, sl => bindTs ts ds sl
  | .tp _, _, _ => none
def bindTs : List Tg → List D → List Sl → Option (List Sl)
  | [], [], sl => some sl
  | t :: ts, d :: ds, sl => match bindT t d sl with
    | some sl' => bindTs ts ds sl'
    | none => none
  | _, _, _ => none
end
def bindM (t : Tg) (d : D) : M Unit := fun s => match bindT t d s.sl with
  | some sl => .ok () { s with sl := sl }
  | none => .no

/-- what is walked: strings sign by sign -/
def walkD : D → Option (List D)
  | .lst ds => some ds
  | .tup ds => some ds
  | .str s => some (s.cps.toList.map fun c => .str ⟨#[c]⟩)
  | _ => none
def enumD (ds : List D) : List D := ds.zipIdx.map fun p => .tup [.int (p.2 : Nat), p.1]
def rngD (lo : Int) (n : Nat) : List D := (List.range n).map fun i => .int (lo + (i : Nat))
def zipD (xs ys : List D) : List D := List.zipWith (fun x y => .tup [x, y]) xs ys
def zipW : D → D → Option (List D)
  | .lst xs, .lst ys => some (zipD xs ys)
  | .tup xs, .tup ys => some (zipD xs ys)
  | _, _ => none

/-- a block's own names are wiped, and come back behind it -/
def wipeS (sl : List Sl) : List Nat → List Sl
  | [] => sl
  | v :: vs => (wipeS sl vs).set v .un
def backS (old new : List Sl) : List Nat → List Sl
  | [] => new
  | v :: vs => (backS old new vs).set v (old.getD v .un)
def noOwn (sl : List Sl) (vs : List Nat) : Bool := vs.all fun v => match sl[v]? with
  | some (.ow _) => false
  | some _ => true
  | none => false
/-- the turns of a comprehension -/
def compL (turn : D → M (Option D)) : List D → M (List D)
  | [] => Pure.pure []
  | d :: ds => turn d >>= fun o => compL turn ds >>= fun r => Pure.pure (match o with
    | some x => x :: r
    | none => r)
def compM (vs : List Nat) (turn : D → M (Option D)) (items : List D) : M D := fun s =>
  if noOwn s.sl vs then
    match compL (fun d s => turn d { s with sl := wipeS s.sl vs }) items s with
    | .ok ds s' => if lenOk ds then .ok (.lst ds) { s' with sl := backS s.sl s'.sl vs } else .no
    | _ => .no
  else .no

def setSl (i : Nat) (x : Sl) : M Unit := fun s => if i < s.sl.length then .ok () { s with sl := s.sl.set i x } else .no
/-- the last one of an own list, taken -/
def popM (i : Nat) : M D := fun s => match s.sl[i]? with
  | some (.ow (.lst ds)) => match ds[ds.length - 1]? with
    | some x => .ok x { s with sl := s.sl.set i (.ow (.lst ds.dropLast)) }
    | none => .no
  | _ => .no
def popAtM (i : Nat) (k : Int) : M D := fun s => match s.sl[i]? with
  | some (.ow (.lst ds)) => match L2.ixN ds.length k with
    | some j => match ds[j]? with
      | some x => if idx62 k then .ok x { s with sl := s.sl.set i (.ow (.lst (ds.eraseIdx j))) } else .no
      | none => .no
    | none => .no
  | _ => .no
def appM (i : Nat) (d : D) : M Unit := fun s => match s.sl[i]? with
  | some (.ow (.lst ds)) => if ds.length < sizeLine then .ok () { s with sl := s.sl.set i (.ow (.lst (ds ++ [d]))) } else .no
  | _ => .no
def stoM (i : Nat) (k v : D) : M Unit := fun s => match s.sl[i]? with
  | some (.ow (.lst ds)) => match k with
    | .int z => match L2.ixN ds.length z with
      | some j => .ok () { s with sl := s.sl.set i (.ow (.lst (ds.set j v))) }
      | none => .no
    | _ => .no
  | some (.ow (.dict ((.bl t, .non) :: kvs))) => if keyFit t k && decide (kvs.length < sizeLine) then .ok () { s with sl := s.sl.set i (.ow (dct t (dPut kvs k v))) } else .no
  | some (.fz (.ref n)) => match s.sh[n]?, k with
    | some (.lst ds), .int z => match L2.ixN ds.length z with
      | some j => .ok () { s with sh := s.sh.set n (.lst (ds.set j v)) }
      | none => .no
    | _, _ => .no
  | _ => .no

/-- a name that has a value -/
def hasM (i : Nat) : M Unit := fun s => match s.sl[i]? with
  | some (.fz _) => .ok () s
  | some (.ow _) => .ok () s
  | _ => .no
/-- a name that has a list of its own -/
def ownM (i : Nat) : M Unit := fun s => match s.sl[i]? with
  | some (.ow (.lst _)) => .ok () s
  | _ => .no
/-- a name that has a dict of its own -/
def dicM (i : Nat) : M Unit := fun s => match s.sl[i]? with
  | some (.ow (.dict ((.bl false, .non) :: _))) => .ok () s
  | _ => .no
def dgetM (i : Nat) (k x : D) : M D := fun s => match s.sl[i]? with
  | some (.ow (.dict ((.bl false, .non) :: kvs))) => if keyFit false k then .ok ((dLook kvs k).getD x) s else .no
  | _ => .no
def asBl : D → M Bool
  | .bl b => Pure.pure b
  | _ => stuck
def shlM (ds : List D) : M D := fun s => if lenOk ds then .ok (.ref s.sh.length) { s with sh := s.sh ++ [.lst ds] } else .no
def idxM (x k : D) : M D := fun s => ofO (idxD s.sh x k) s
def negM : D → M D
  | .int i => Pure.pure (.int (-i))
  | _ => stuck
def invM : D → M D
  | .int i => Pure.pure (.int (Builtin.bitNot i))
  | _ => stuck
def optM : D → M (Option Int)
  | .int i => Pure.pure (some i)
  | _ => stuck
def rng1M : D → M (List D)
  | .int j => if idx62 j then Pure.pure (rngD 0 j.toNat) else stuck
  | _ => stuck
def rng2M : D → D → M (List D)
  | .int i, .int j => if idx62 i && idx62 j then Pure.pure (rngD i (j - i).toNat) else stuck
  | _, _ => stuck
def popAtD (i : Nat) : D → M D
  | .int k => popAtM i k
  | _ => stuck
def turnM (g : D → M Unit) (c : M Bool) (e : M D) (d : D) : M (Option D) := g d >>= fun _ => c >>= fun k => if k then e >>= fun x => Pure.pure (some x) else Pure.pure none

mutual
def evE (cf : Cf) : IE → M D
  | .loc i => rdF i
  | .con d => Pure.pure d
  | .glob g => ofO cf.cs[g]?
  | .tup es => evEs cf es >>= fun ds => ofO (mkT ds)
  | .lst es => evEs cf es >>= fun ds => ofO (mkL ds)
  | .shl es => evEs cf es >>= shlM
  | .bin op a b => peek a.slot? (evE cf a) >>= fun p => peek b.slot? (evE cf b) >>= fun q => getP p >>= fun x => getP q >>= fun y => ofO (binD op x y)
  | .neg a => evE cf a >>= negM
  | .inv a => evE cf a >>= invM
  | .not a => evE cf a >>= asBl >>= fun b => Pure.pure (.bl (!b))
  | .cmp op a b => peek a.slot? (evE cf a) >>= fun p => peek b.slot? (evE cf b) >>= fun q => getP p >>= fun x => getP q >>= fun y => ofO ((cmpD op x y).map .bl)
  | .chain op op' a b c => evE cf a >>= fun x => evE cf b >>= fun y => ofO (cmpD op x y) >>= fun k => if k then evE cf c >>= fun z => ofO ((cmpD op' y z).map .bl) else Pure.pure (.bl false)
  | .and a b => evE cf a >>= asBl >>= fun k => if k then evE cf b >>= asBl >>= fun k' => Pure.pure (.bl k') else Pure.pure (.bl false)
  | .or a b => evE cf a >>= asBl >>= fun k => if k then Pure.pure (.bl true) else evE cf b >>= asBl >>= fun k' => Pure.pure (.bl k')
  | .ite c a b => evE cf c >>= asBl >>= fun k => if k then evE cf a else evE cf b
  | .idx a i => peek a.slot? (evE cf a) >>= fun p => evE cf i >>= fun k => getP p >>= fun x => idxM x k
  | .slc a lo hi => peek a.slot? (evE cf a) >>= fun p => evO cf lo >>= fun l => evO cf hi >>= fun h => getP p >>= fun x => ofO (slcD l h x)
  | .rev a => peek a.slot? (evE cf a) >>= fun p => getP p >>= fun x => ofO (revD x)
  | .comp elt tg it cond vs => evT cf it >>= fun items => compM vs (turnM (bindM tg) (evC cf cond) (evE cf elt)) items
  | .call f es => evEs cf es >>= fun ds => cf.call f ds
  | .bi b es => evPs cf es >>= fun ps => getPs ps >>= fun ds => ofO (biD b ds)
  | .pop i => popM i
  | .popAt i e => ownM i >>= fun _ => evE cf e >>= popAtD i
  | .dget i k x => dicM i >>= fun _ => evE cf k >>= fun y => evE cf x >>= fun z => dgetM i y z
def evEs (cf : Cf) : IEs → M (List D)
  | .nil => Pure.pure []
  | .cons e es => evE cf e >>= fun d => evEs cf es >>= fun ds => Pure.pure (d :: ds)
def evPs (cf : Cf) : IEs → M (List P)
  | .nil => Pure.pure []
  | .cons e es => peek e.slot? (evE cf e) >>= fun p => evPs cf es >>= fun ps => Pure.pure (p :: ps)
/-- a part of a slice -/
def evO (cf : Cf) : IO → M (Option Int)
  | .none => Pure.pure none
  | .some e => evE cf e >>= optM
/-- a clause's test -/
def evC (cf : Cf) : IO → M Bool
  | .none => Pure.pure true
  | .some e => evE cf e >>= asBl
def evT (cf : Cf) : IT → M (List D)
  | .each e => evE cf e >>= fun d => ofO (walkD d)
  | .rng1 e => evE cf e >>= rng1M
  | .rng2 a b => evE cf a >>= fun x => evE cf b >>= fun y => rng2M x y
  | .enum e => evE cf e >>= fun d => ofO ((walkD d).map enumD)
  | .zip a b => evE cf a >>= fun x => evE cf b >>= fun y => ofO (zipW x y)
end

/-! ### statements -/
/-- does this make a list (or dict) of its own -/
def IE.fresh : IE → Bool
  | .lst _ => true
  | .comp .. => true
  | .bin .Add _ _ => true
  | .bin .Mult _ _ => true
  | .slc _ _ _ => true
  | .rev _ => true
  | .bi .list _ => true
  | .bi .sorted _ => true
  | _ => false
def ownable : D → Bool
  | .lst _ => true
  | _ => false

/-- what a list of pairs makes -/
def pairsOf : List D → Option (List (D × D))
  | [] => some []
  | .tup [k, v] :: ds => (pairsOf ds).map ((k, v) :: ·)
  | _ :: _ => none
def dMake : D → Option D
  | .lst ds => (pairsOf ds).bind fun kvs => if kvs.all (fun p => keyFit true p.1) && decide (kvs.length ≤ sizeLine) then some (dct true (kvs.foldl (fun acc p => dPut acc p.1 p.2) [])) else none
  | _ => none
/-- an item of a, b = e, f: kept; a list of its own; {}; dict(e) -/
inductive Par where
  | fz (i : Nat) (e : IE)
  | ow (i : Nat) (e : IE)
  | nw (i : Nat) (t : Bool)
  | mk (i : Nat) (e : IE)
def Par.i : Par → Nat
  | .fz i _ => i
  | .ow i _ => i
  | .nw i _ => i
  | .mk i _ => i

mutual
inductive IS where
  | set (i : Nat) (e : IE)
  | own (i : Nat) (e : IE)
  | unp (ts : List Tg) (e : IE)
  | par (ps : List Par)
  | dic (p : Par)
  | sto (i : Nat) (k v : IE)
  | app (i : Nat) (e : IE)
  | expr (e : IE)
  | iff (c : IE) (a b : ISs)
  | for (tg : Tg) (it : IT) (body : ISs)
  | whl (c : IE) (body : ISs)
  | ret (e : IE)
  | retN
  | raise
  | pass
  | brk
  | cont
inductive ISs where
  | nil
  | cons (s : IS) (ss : ISs)
end
inductive Fl where
  | nx
  | rt (d : D)
  | bk
  | ct

def forL (f : D → M Fl) : List D → M Fl
  | [] => Pure.pure .nx
  | d :: ds => f d >>= fun k => match k with
    | .nx => forL f ds
    | .ct => forL f ds
    | .bk => Pure.pure .nx
    | .rt x => Pure.pure (.rt x)
def whlL (c : M Bool) (b : M Fl) : Nat → M Fl
  | 0 => stuck
  | n + 1 => c >>= fun k => if k then b >>= fun k => match k with
      | .nx => whlL c b n
      | .ct => whlL c b n
      | .bk => Pure.pure .nx
      | .rt x => Pure.pure (.rt x)
    else Pure.pure .nx
/-- own: the list is made for this name alone -/
def mkSl (own fresh : Bool) (d : D) : Option Sl := if own then (if fresh && ownable d then some (.ow d) else none) else some (.fz d)
def evP1 (cf : Cf) : Par → M Sl
  | .fz _ e => evE cf e >>= fun d => Pure.pure (.fz d)
  | .ow _ e => evE cf e >>= fun d => ofO (mkSl true e.fresh d)
  | .nw _ t => Pure.pure (.ow (dct t []))
  | .mk _ e => evE cf e >>= fun d => ofO (dMake d) >>= fun z => Pure.pure (.ow z)
def evPar (cf : Cf) : List Par → M (List Sl)
  | [] => Pure.pure []
  | p :: ps => evP1 cf p >>= fun x => evPar cf ps >>= fun xs => Pure.pure (x :: xs)
def setSls : List Par → List Sl → M Unit
  | [], [] => Pure.pure ()
  | p :: ps, x :: xs => setSl p.i x >>= fun _ => setSls ps xs
  | _, _ => stuck

mutual
def evS (cf : Cf) (W : Nat) : IS → M Fl
  | .set i e => evE cf e >>= fun d => setSl i (.fz d) >>= fun _ => Pure.pure .nx
  | .own i e => evE cf e >>= fun d => ofO (mkSl true e.fresh d) >>= fun x => setSl i x >>= fun _ => Pure.pure .nx
  | .unp ts e => evE cf e >>= fun d => bindM (.tp ts) d >>= fun _ => Pure.pure .nx
  | .par ps => evPar cf ps >>= fun xs => setSls ps xs >>= fun _ => Pure.pure .nx
  | .dic p => evP1 cf p >>= fun x => setSl p.i x >>= fun _ => Pure.pure .nx
  | .sto i k v => evE cf v >>= fun y => hasM i >>= fun _ => evE cf k >>= fun x => stoM i x y >>= fun _ => Pure.pure .nx
  | .app i e => ownM i >>= fun _ => evE cf e >>= fun d => appM i d >>= fun _ => Pure.pure .nx
  | .expr e => evE cf e >>= fun _ => Pure.pure .nx
  | .iff c a b => evE cf c >>= asBl >>= fun k => if k then evSs cf W a else evSs cf W b
  | .for tg it body => evT cf it >>= fun items => forL (fun d => bindM tg d >>= fun _ => evSs cf W body) items
  | .whl c body => whlL (evE cf c >>= asBl) (evSs cf W body) W
  | .ret e => evE cf e >>= fun d => Pure.pure (.rt d)
  | .retN => Pure.pure (.rt .non)
  | .raise => stuck
  | .pass => Pure.pure .nx
  | .brk => Pure.pure .bk
  | .cont => Pure.pure .ct
def evSs (cf : Cf) (W : Nat) : ISs → M Fl
  | .nil => Pure.pure .nx
  | .cons s ss => evS cf W s >>= fun k => match k with
    | .nx => evSs cf W ss
    | .rt x => Pure.pure (.rt x)
    | .bk => Pure.pure .bk
    | .ct => Pure.pure .ct
end

/-! ### defs -/
structure Fn where
  np : Nat
  ns : Nat
  body : ISs
def backF (sl : List Sl) : R Fl → R D
  | .ok .nx s => .ok .non ⟨sl, s.sh⟩
  | .ok (.rt d) s => .ok d ⟨sl, s.sh⟩
  | .ok .bk _ => .no
  | .ok .ct _ => .no
  | .ex x s => .ex x ⟨sl, s.sh⟩
  | .no => .no
/-- a call of the f-th def, at most so many calls deep -/
def callF (fns : List Fn) (cs : List D) (W : Nat) : Nat → Nat → List D → M D
  | 0, _, _ => stuck
  | n + 1, f, args => fun s => match fns[f]? with
    | some fd => if args.length = fd.np ∧ fd.np ≤ fd.ns then backF s.sl (evSs ⟨callF fns cs W n, cs⟩ W fd.body ⟨args.map .fz ++ List.replicate (fd.ns - fd.np) .un, s.sh⟩) else .no
    | none => .no

end Pv

set_option maxRecDepth 100000
/-! Pv.Rel: how values and states of the evaluator lie in the hand layer's heap. -/
namespace Pv
open PySem PySem.Spec L2

/-- what stays for good, what others hold, where the shared lists are -/
structure Gh where
  F : Hp
  B : Hp
  am : List Addr
structure Le (c c' : Gh) : Prop where
  F : ∀ a o, c.F a = some o → c'.F a = some o
  B : c'.B = c.B
  am : ∃ t, c'.am = c.am ++ t
theorem Le.refl (c : Gh) : Le c c := ⟨fun _ _ h => h, rfl, [], by simp⟩
theorem Le.trans {a b c : Gh} (x : Le a b) (y : Le b c) : Le a c := by
  obtain ⟨t, h⟩ := x.am
  obtain ⟨u, h'⟩ := y.am
  exact ⟨fun z o e => y.F z o (x.F z o e), y.B.trans x.B, t ++ u, by rw [h', h, List.append_assoc]⟩

theorem sqL_mono {K : PySem.W.Frag} {H H' : Hp} {a : Addr} {xs : List V} (k : ∀ a o, H a = some o → H' a = some o) (h : SqL K H a xs) : SqL K H' a xs := by
  rcases h with (h | ⟨o, h⟩) | h
  · exact .inl (.inl (k _ _ h))
  · exact .inl (.inr ⟨o, k _ _ h⟩)
  · exact .inr h
theorem sqT_mono {K : PySem.W.Frag} {H H' : Hp} {a : Addr} {xs : List V} (k : ∀ a o, H a = some o → H' a = some o) (h : SqT K H a xs) : SqT K H' a xs := by
  rcases h with (h | ⟨o, h⟩) | h
  · exact .inl (.inl (k _ _ h))
  · exact .inl (.inr ⟨o, k _ _ h⟩)
  · exact .inr h

mutual
/-- v is the value d -/
def Rp (K : PySem.W.Frag) (c : Gh) : D → V → Prop
  | .non, v => v = .non
  | .bl b, v => v = .bl b
  | .int i, v => v = .int i
  | .str s, v => v = .str s
  | .tup ds, v => ∃ a xs, v = .ref a ∧ SqT K c.F a xs ∧ RpL K c ds xs
  | .lst ds, v => ∃ a xs, v = .ref a ∧ SqL K c.F a xs ∧ RpL K c ds xs
  | .dict _, _ => False
  | .ref n, v => ∃ a, v = .ref a ∧ c.am[n]? = some a
def RpL (K : PySem.W.Frag) (c : Gh) : List D → List V → Prop
  | [], xs => xs = []
  | d :: ds, xs => ∃ y ys, xs = y :: ys ∧ Rp K c d y ∧ RpL K c ds ys
end
section
variable {K : PySem.W.Frag} {c c' : Gh}
theorem am_get {c c' : Gh} (h : Le c c') {n : Nat} {a : Addr} (e : c.am[n]? = some a) : c'.am[n]? = some a := by
  obtain ⟨t, ht⟩ := h.am
  rw [ht, List.getElem?_append_left (List.getElem?_eq_some_iff.mp e).1]
  exact e
mutual
theorem Rp.mono (h : Le c c') : ∀ (d : D) (v : V), Rp K c d v → Rp K c' d v
  | .non, v, r => by simpa only [Rp] using r
  | .bl b, v, r => by simpa only [Rp] using r
  | .int i, v, r => by simpa only [Rp] using r
  | .str s, v, r => by simpa only [Rp] using r
  | .tup ds, v, r => by
    simp only [Rp] at r ⊢
    obtain ⟨a, xs, e, q, t⟩ := r
    exact ⟨a, xs, e, sqT_mono h.F q, RpL.mono h ds xs t⟩
  | .lst ds, v, r => by
    simp only [Rp] at r ⊢
    obtain ⟨a, xs, e, q, t⟩ := r
    exact ⟨a, xs, e, sqL_mono h.F q, RpL.mono h ds xs t⟩
  | .dict kvs, v, r => by simp only [Rp] at r
  | .ref n, v, r => by
    simp only [Rp] at r ⊢
    obtain ⟨a, e, q⟩ := r
    exact ⟨a, e, am_get h q⟩
theorem RpL.mono (h : Le c c') : ∀ (ds : List D) (xs : List V), RpL K c ds xs → RpL K c' ds xs
  | [], xs, r => by simpa only [RpL] using r
  | d :: ds, xs, r => by
    simp only [RpL] at r ⊢
    obtain ⟨y, ys, e, q, t⟩ := r
    exact ⟨y, ys, e, Rp.mono h d y q, RpL.mono h ds ys t⟩
end
mutual
/-- the ghost's B does not matter -/
theorem Rp.ofB {F : Hp} {B B' : Hp} {am : List Addr} : ∀ (d : D) (v : V), Rp K ⟨F, B, am⟩ d v → Rp K ⟨F, B', am⟩ d v
  | .non, v, r => by simpa only [Rp] using r
  | .bl b, v, r => by simpa only [Rp] using r
  | .int i, v, r => by simpa only [Rp] using r
  | .str s, v, r => by simpa only [Rp] using r
  | .tup ds, v, r => by
    simp only [Rp] at r ⊢
    obtain ⟨a, xs, e, q, t⟩ := r
    exact ⟨a, xs, e, q, RpL.ofB ds xs t⟩
  | .lst ds, v, r => by
    simp only [Rp] at r ⊢
    obtain ⟨a, xs, e, q, t⟩ := r
    exact ⟨a, xs, e, q, RpL.ofB ds xs t⟩
  | .dict kvs, v, r => by simp only [Rp] at r
  | .ref n, v, r => by simpa only [Rp] using r
theorem RpL.ofB {F : Hp} {B B' : Hp} {am : List Addr} : ∀ (ds : List D) (xs : List V), RpL K ⟨F, B, am⟩ ds xs → RpL K ⟨F, B', am⟩ ds xs
  | [], xs, r => by simpa only [RpL] using r
  | d :: ds, xs, r => by
    simp only [RpL] at r ⊢
    obtain ⟨y, ys, e, q, t⟩ := r
    exact ⟨y, ys, e, Rp.ofB d y q, RpL.ofB ds ys t⟩
end

theorem RpL.length : ∀ {ds : List D} {xs : List V}, RpL K c ds xs → ds.length = xs.length
  | [], xs, r => by simp only [RpL] at r; subst r; rfl
  | d :: ds, xs, r => by
    simp only [RpL] at r
    obtain ⟨y, ys, e, q, t⟩ := r
    subst e
    simp [RpL.length t]
theorem RpL.get : ∀ {ds : List D} {xs : List V} {i : Nat} {d : D}, RpL K c ds xs → ds[i]? = some d → ∃ v, xs[i]? = some v ∧ Rp K c d v
  | [], xs, i, d, r, e => by simp at e
  | d' :: ds, xs, 0, d, r, e => by
    simp only [RpL] at r
    obtain ⟨y, ys, e', q, t⟩ := r
    simp at e; subst e; subst e'
    exact ⟨y, rfl, q⟩
  | d' :: ds, xs, i + 1, d, r, e => by
    simp only [RpL] at r
    obtain ⟨y, ys, e', q, t⟩ := r
    subst e'
    obtain ⟨v, h1, h2⟩ := RpL.get (i := i) t (by simpa using e)
    exact ⟨v, by simpa using h1, h2⟩
theorem RpL.get' {ds : List D} {xs : List V} {i : Nat} {v : V} (r : RpL K c ds xs) (e : xs[i]? = some v) : ∃ d, ds[i]? = some d ∧ Rp K c d v := by
  have hl := r.length
  have hi : i < ds.length := by rw [hl]; exact (List.getElem?_eq_some_iff.mp e).1
  obtain ⟨v', h1, h2⟩ := r.get (List.getElem?_eq_getElem hi)
  rw [e] at h1
  cases h1
  exact ⟨_, List.getElem?_eq_getElem hi, h2⟩
theorem RpL.append : ∀ {ds es : List D} {xs ys : List V}, RpL K c ds xs → RpL K c es ys → RpL K c (ds ++ es) (xs ++ ys)
  | [], es, xs, ys, r, r' => by simp only [RpL] at r; subst r; simpa using r'
  | d :: ds, es, xs, ys, r, r' => by
    simp only [RpL] at r
    obtain ⟨y, zs, e, q, t⟩ := r
    subst e
    show RpL K c (d :: (ds ++ es)) (y :: (zs ++ ys))
    simp only [RpL]
    exact ⟨y, zs ++ ys, rfl, q, RpL.append t r'⟩
theorem RpL.one {d : D} {v : V} (r : Rp K c d v) : RpL K c [d] [v] := by
  simp only [RpL]
  exact ⟨v, [], rfl, r, rfl⟩
theorem RpL.nil : RpL K c [] [] := by simp only [RpL]
theorem RpL.cons {d : D} {v : V} {ds : List D} {vs : List V} (r : Rp K c d v) (t : RpL K c ds vs) : RpL K c (d :: ds) (v :: vs) := by
  simp only [RpL]
  exact ⟨v, vs, rfl, r, t⟩
/-- by places -/
theorem RpL.of_get : ∀ {ds : List D} {xs : List V}, ds.length = xs.length → (∀ (i : Nat) d v, ds[i]? = some d → xs[i]? = some v → Rp K c d v) → RpL K c ds xs
  | [], [], _, _ => .nil
  | [], _ :: _, h, _ => by simp at h
  | _ :: _, [], h, _ => by simp at h
  | d :: ds, x :: xs, h, f => .cons (f 0 d x rfl rfl) (RpL.of_get (by simpa using h) fun i d v h1 h2 => f (i + 1) d v (by simpa using h1) (by simpa using h2))
theorem RpL.map_ix {ds : List D} {xs : List V} (r : RpL K c ds xs) {ds' : List D} {xs' : List V} (hl : ds'.length = xs'.length)
    (g : ∀ i : Nat, i < ds'.length → ∃ j : Nat, ds'[i]? = ds[j]? ∧ xs'[i]? = xs[j]?) : RpL K c ds' xs' := RpL.of_get hl fun i d v h1 h2 => by
  have hi : i < ds'.length := (List.getElem?_eq_some_iff.mp h1).1
  obtain ⟨j, e1, e2⟩ := g i hi
  rw [e1] at h1
  rw [e2] at h2
  obtain ⟨v', e, q⟩ := r.get h1
  rw [h2] at e
  cases e
  exact q
theorem RpL.reverse {ds : List D} {xs : List V} (r : RpL K c ds xs) : RpL K c ds.reverse xs.reverse :=
  r.map_ix (by simp [r.length]) fun i hi => ⟨ds.length - 1 - i, by rw [List.getElem?_reverse (by simpa using hi)], by rw [List.getElem?_reverse (by rw [← r.length]; simpa using hi), r.length]⟩
theorem RpL.drop {ds : List D} {xs : List V} (r : RpL K c ds xs) (n : Nat) : RpL K c (ds.drop n) (xs.drop n) :=
  r.map_ix (by simp [r.length]) fun i hi => ⟨n + i, by rw [List.getElem?_drop], by rw [List.getElem?_drop]⟩
theorem RpL.take {ds : List D} {xs : List V} (r : RpL K c ds xs) (n : Nat) : RpL K c (ds.take n) (xs.take n) :=
  r.map_ix (by simp [r.length]) fun i hi => by
    have hn : i < n := by simp at hi; omega
    exact ⟨i, by rw [List.getElem?_take_of_lt hn], by rw [List.getElem?_take_of_lt hn]⟩
theorem RpL.cut {ds : List D} {xs : List V} (r : RpL K c ds xs) (lo hi : Option Int) : RpL K c (cutD ds lo hi) (cutV xs lo hi) := by
  unfold cutD cutV
  rw [r.length]
  exact (r.drop _).take _
theorem RpL.dropLast {ds : List D} {xs : List V} (r : RpL K c ds xs) : RpL K c ds.dropLast xs.dropLast := by
  rw [List.dropLast_eq_take, List.dropLast_eq_take, r.length]
  exact r.take _
theorem RpL.set {ds : List D} {xs : List V} (r : RpL K c ds xs) {d : D} {v : V} (q : Rp K c d v) (j : Nat) : RpL K c (ds.set j d) (xs.set j v) :=
  RpL.of_get (by simp [r.length]) fun i d' v' h1 h2 => by
    by_cases e : j = i
    · subst e
      have hj : j < ds.length := by have := (List.getElem?_eq_some_iff.mp h1).1; simpa using this
      rw [List.getElem?_set_self hj] at h1
      rw [List.getElem?_set_self (by rw [← r.length]; exact hj)] at h2
      cases h1; cases h2
      exact q
    · rw [List.getElem?_set_ne e] at h1 h2
      obtain ⟨v2, e2, q2⟩ := r.get h1
      rw [h2] at e2; cases e2
      exact q2
theorem RpL.eraseIdx {ds : List D} {xs : List V} (r : RpL K c ds xs) (j : Nat) : RpL K c (ds.eraseIdx j) (xs.eraseIdx j) := by
  rw [List.eraseIdx_eq_take_drop_succ, List.eraseIdx_eq_take_drop_succ]
  exact (r.take j).append (r.drop (j + 1))
theorem RpL.rep {ds : List D} {xs : List V} (r : RpL K c ds xs) : ∀ n : Nat, RpL K c (List.replicate n ds).flatten (List.replicate n xs).flatten
  | 0 => .nil
  | n + 1 => by
    rw [List.replicate_succ, List.replicate_succ, List.flatten_cons, List.flatten_cons]
    exact r.append (RpL.rep r n)

/-! ### as the layer's data -/
mutual
theorem Rp.dp {H : Hp} (hF : ∀ a o, c.F a = some o → H a = some o) : ∀ (d : D) (v : V), d.pl = true → Rp K c d v → Dp K H v d.toP
  | .non, v, _, r => by simp only [Rp] at r; subst r; simp only [D.toP]; exact .non
  | .bl b, v, _, r => by simp only [Rp] at r; subst r; simp only [D.toP]; exact .bl b
  | .int i, v, _, r => by simp only [Rp] at r; subst r; simp only [D.toP]; exact .int i
  | .str s, v, _, r => by simp only [Rp] at r; subst r; simp only [D.toP]; exact .str s
  | .tup ds, v, h, r => by
    simp only [Rp] at r
    obtain ⟨a, xs, e, q, t⟩ := r
    subst e
    simp only [D.toP]
    simp only [D.pl] at h
    exact .tup (sqT_mono hF q) (RpL.dp hF ds xs h t)
  | .lst ds, v, h, r => by
    simp only [Rp] at r
    obtain ⟨a, xs, e, q, t⟩ := r
    subst e
    simp only [D.toP]
    simp only [D.pl] at h
    exact .lst (sqL_mono hF q) (RpL.dp hF ds xs h t)
  | .dict kvs, v, h, r => by simp [D.pl] at h
  | .ref n, v, h, r => by simp [D.pl] at h
theorem RpL.dp {H : Hp} (hF : ∀ a o, c.F a = some o → H a = some o) : ∀ (ds : List D) (vs : List V), D.plL ds = true → RpL K c ds vs → DpAll K H vs (D.toPs ds)
  | [], vs, _, r => by simp only [RpL] at r; subst r; simp only [D.toPs]; exact .nil
  | d :: ds, vs, h, r => by
    simp only [RpL] at r
    obtain ⟨y, ys, e, q, t⟩ := r
    subst e
    simp only [D.toPs]
    simp only [D.plL, Bool.and_eq_true] at h
    exact .cons (Rp.dp hF d y h.1 q) (RpL.dp hF ds ys h.2 t)
end
end

/-! ### dicts -/
mutual
/-- ints and tuples of such, as keys -/
def nk : D → NestedKey
  | .int i => .num i
  | .tup ds => .tup (nks ds)
  | _ => .none
def nks : List D → List NestedKey
  | [] => []
  | d :: ds => nk d :: nks ds
end
def keyOf : D → Option L2.Key
  | .int i => some (.inl i)
  | .str s => some (.inr s)
  | _ => none
/-- a dict whose keys are tuples of ints -/
def DicO (a : Addr) (xs : List (NestedKey × Addr × Value)) : HO := .ext fun h => ∃ (o : Obj) (es : Array DictEntry) (ep : Nat), h.get? a = some o ∧ o.ExactDict ∧ o.data = .dict es ep ∧
  (∀ (P : Program) (w : World), es.toList = xs.map (entryOfKey (nestedKind P w))) ∧ (xs.map (·.1)).Nodup ∧ xs.length ≤ sizeLine ∧ (a == sysModules) = false
section
variable (K : PySem.W.Frag) (c : Gh)
def KVp : List (D × D) → List (L2.Key × V) → Prop
  | [], vs => vs = []
  | p :: ps, vs => ∃ q r, vs = q :: r ∧ keyOf p.1 = some q.1 ∧ Rp K c p.2 q.2 ∧ KVp ps r
def KTp : List (D × D) → List (NestedKey × Addr × Value) → Prop
  | [], xs => xs = []
  | p :: ps, xs => ∃ q r, xs = q :: r ∧ keyFit true p.1 = true ∧ q.1 = nk p.1 ∧ Rp K c p.1 (.ref q.2.1) ∧ (∃ v, RelV v q.2.2 ∧ Rp K c p.2 v) ∧ KTp ps r
/-- the thing of its own at a -/
def OwnIs (H : Hp) (a : Addr) : D → Prop
  | .lst ds => ∃ xs, H a = some (.lst xs) ∧ RpL K c ds xs
  | .dict ((.bl false, .non) :: kvs) => ∃ vs, H a = some (.dK vs) ∧ KVp K c kvs vs
  | .dict ((.bl true, .non) :: kvs) => ∃ xs, H a = some (DicO a xs) ∧ KTp K c kvs xs
  | _ => False
end
section
variable {K : PySem.W.Frag} {c c' : Gh}
theorem KVp.mono (h : Le c c') : ∀ {kvs : List (D × D)} {vs : List (L2.Key × V)}, KVp K c kvs vs → KVp K c' kvs vs
  | [], _, r => r
  | p :: ps, _, ⟨q, r, e, e1, r1, r2⟩ => ⟨q, r, e, e1, Rp.mono h _ _ r1, KVp.mono h r2⟩
theorem KTp.mono (h : Le c c') : ∀ {kvs : List (D × D)} {xs : List (NestedKey × Addr × Value)}, KTp K c kvs xs → KTp K c' kvs xs
  | [], _, r => r
  | p :: ps, _, ⟨q, r, e, e1, e2, r1, ⟨v, e3, r3⟩, r2⟩ => ⟨q, r, e, e1, e2, Rp.mono h _ _ r1, ⟨v, e3, Rp.mono h _ _ r3⟩, KTp.mono h r2⟩
/-- the three kinds -/
theorem OwnIs.cases {H : Hp} {a : Addr} {d : D} (h : OwnIs K c H a d) : (∃ ds xs, d = .lst ds ∧ H a = some (.lst xs) ∧ RpL K c ds xs) ∨ (∃ kvs vs, d = dct false kvs ∧ H a = some (.dK vs) ∧ KVp K c kvs vs) ∨ ∃ kvs xs, d = dct true kvs ∧ H a = some (DicO a xs) ∧ KTp K c kvs xs := by
  unfold OwnIs at h
  split at h
  · obtain ⟨xs, h⟩ := h; exact .inl ⟨_, xs, rfl, h⟩
  · obtain ⟨xs, h⟩ := h; exact .inr (.inl ⟨_, xs, rfl, h⟩)
  · obtain ⟨xs, h⟩ := h; exact .inr (.inr ⟨_, xs, rfl, h⟩)
  · exact h.elim
theorem OwnIs.some {H : Hp} {a : Addr} {d : D} (h : OwnIs K c H a d) : ∃ o, H a = some o := by
  rcases h.cases with ⟨_, _, _, e, _⟩ | ⟨_, _, _, e, _⟩ | ⟨_, _, _, e, _⟩ <;> exact ⟨_, e⟩
theorem OwnIs.mono {H : Hp} {a : Addr} {d : D} (h : OwnIs K c H a d) (l : Le c c') : OwnIs K c' H a d := by
  rcases h.cases with ⟨_, xs, rfl, e, r⟩ | ⟨_, xs, rfl, e, r⟩ | ⟨_, xs, rfl, e, r⟩
  · exact ⟨xs, e, RpL.mono l _ _ r⟩
  · exact ⟨xs, e, r.mono l⟩
  · exact ⟨xs, e, r.mono l⟩
theorem KVp.ofB {F : Hp} {B B' : Hp} {am : List Addr} : ∀ {kvs : List (D × D)} {vs : List (L2.Key × V)}, KVp K ⟨F, B, am⟩ kvs vs → KVp K ⟨F, B', am⟩ kvs vs
  | [], _, r => r
  | p :: ps, _, ⟨q, r, e, e1, r1, r2⟩ => ⟨q, r, e, e1, Rp.ofB _ _ r1, KVp.ofB r2⟩
theorem KTp.ofB {F : Hp} {B B' : Hp} {am : List Addr} : ∀ {kvs : List (D × D)} {xs : List (NestedKey × Addr × Value)}, KTp K ⟨F, B, am⟩ kvs xs → KTp K ⟨F, B', am⟩ kvs xs
  | [], _, r => r
  | p :: ps, _, ⟨q, r, e, e1, e2, r1, ⟨v, e3, r3⟩, r2⟩ => ⟨q, r, e, e1, e2, Rp.ofB _ _ r1, ⟨v, e3, Rp.ofB _ _ r3⟩, KTp.ofB r2⟩
theorem OwnIs.ofB {F : Hp} {B B' : Hp} {am : List Addr} {H : Hp} {a : Addr} {d : D} (h : OwnIs K ⟨F, B, am⟩ H a d) : OwnIs K ⟨F, B', am⟩ H a d := by
  rcases h.cases with ⟨_, xs, rfl, e, r⟩ | ⟨_, xs, rfl, e, r⟩ | ⟨_, xs, rfl, e, r⟩
  · exact ⟨xs, e, RpL.ofB _ _ r⟩
  · exact ⟨xs, e, r.ofB⟩
  · exact ⟨xs, e, r.ofB⟩
theorem OwnIs.to {H H' : Hp} {a : Addr} {d : D} (h : OwnIs K c H a d) (l : H' a = H a) : OwnIs K c H' a d := by
  rcases h.cases with ⟨_, xs, rfl, e, r⟩ | ⟨_, xs, rfl, e, r⟩ | ⟨_, xs, rfl, e, r⟩
  · exact ⟨xs, l.trans e, r⟩
  · exact ⟨xs, l.trans e, r⟩
  · exact ⟨xs, l.trans e, r⟩
end
/-! ### states -/
section
variable (K : PySem.W.Frag)
/-- a list of its own at a -/
structure OwnAt (c : Gh) (H : Hp) (a : Addr) (d : D) : Prop where
  f : c.F a = none
  b : c.B a = none
  at_ : OwnIs K c H a d
def SlOk (c : Gh) (H : Hp) (t : Sl) (o : Option (Option V)) : Prop :=
  match t with
  | .un => True
  | .fz d => ∃ v, o = some (some v) ∧ Rp K c d v
  | .ow d => ∃ a, o = some (some (.ref a)) ∧ OwnAt K c H a d
/-- who owns an address: a name (inl), a shared list (inr) -/
def Owns (st : S) (σ : St) (c : Gh) (a : Addr) : Sum Nat Nat → Prop
  | .inl i => (∃ d, st.sl[i]? = some (.ow d)) ∧ σ[i]? = some (some (.ref a))
  | .inr n => c.am[n]? = some a
def NoOwn (st : S) (σ : St) (c : Gh) (a : Addr) : Prop := ∀ k, ¬ Owns st σ c a k
structure Abs (c : Gh) (st : S) (σ : St) (H : Hp) : Prop where
  fH : ∀ a o, c.F a = some o → H a = some o
  bH : ∀ a o, c.B a = some o → H a = some o
  fB : ∀ a, c.F a ≠ none → c.B a = none
  len : st.sl.length = σ.length
  sl : ∀ (i : Nat) t, st.sl[i]? = some t → SlOk K c H t σ[i]?
  shl : st.sh.length = c.am.length
  sh : ∀ (n : Nat) d, st.sh[n]? = some d → ∃ a, c.am[n]? = some a ∧ OwnAt K c H a d
  uq : ∀ a k k', Owns st σ c a k → Owns st σ c a k' → k = k'
end
section
variable {K : PySem.W.Frag} {c c' : Gh} {st : S} {σ : St} {H H' : Hp} {a p : Addr} {o : HO} {d : D}

theorem Abs.owned (A : Abs K c st σ H) {k : Sum Nat Nat} (h : Owns st σ c a k) : ∃ d, OwnAt K c H a d := by
  cases k with
  | inl i =>
    obtain ⟨⟨d, e⟩, e2⟩ := h
    obtain ⟨a', e3, q⟩ := A.sl i _ e
    rw [e2] at e3
    cases e3
    exact ⟨d, q⟩
  | inr n =>
    have hn : n < st.sh.length := by rw [A.shl]; exact (List.getElem?_eq_some_iff.mp h).1
    obtain ⟨a', e, q⟩ := A.sh n _ (List.getElem?_eq_getElem hn)
    rw [show c.am[n]? = some a from h] at e
    cases e
    exact ⟨_, q⟩
theorem Abs.noOwn_new (A : Abs K c st σ H) (h : H p = none) : NoOwn st σ c p := fun k hk => by
  obtain ⟨d, q⟩ := A.owned hk
  obtain ⟨o, e⟩ := q.at_.some
  rw [h] at e; cases e
theorem Abs.fN (A : Abs K c st σ H) (h : H p = none) : c.F p = none := by
  cases e : c.F p with
  | none => rfl
  | some o => have := A.fH p o e; rw [h] at this; cases this
theorem Abs.bN (A : Abs K c st σ H) (h : H p = none) : c.B p = none := by
  cases e : c.B p with
  | none => rfl
  | some o => have := A.bH p o e; rw [h] at this; cases this
theorem OwnAt.to {H' : Hp} (x : OwnAt K c H a d) (h : H' a = H a) : OwnAt K c H' a d :=
  ⟨x.f, x.b, x.at_.to h⟩
/-- an address that is nobody's is written -/
theorem Abs.updFree (A : Abs K c st σ H) (hf : c.F a = none) (hb : c.B a = none) (hn : NoOwn st σ c a) : Abs K c st σ (upd H a o) where
  fH := fun x u e => by
    rw [upd_ne (fun z => by rw [z, hf] at e; cases e)]; exact A.fH x u e
  bH := fun x u e => by
    rw [upd_ne (fun z => by rw [z, hb] at e; cases e)]; exact A.bH x u e
  fB := A.fB
  len := A.len
  sl := fun i t e => by
    have q := A.sl i t e
    cases t with
    | un => trivial
    | fz d => exact q
    | ow d =>
      obtain ⟨x, e2, r⟩ := q
      exact ⟨x, e2, r.to (upd_ne fun z => hn (.inl i) ⟨⟨d, e⟩, by rw [e2, z]⟩)⟩
  shl := A.shl
  sh := fun n d e => by
    obtain ⟨x, e2, r⟩ := A.sh n d e
    exact ⟨x, e2, r.to (upd_ne fun z => hn (.inr n) (by rw [← z]; exact e2))⟩
  uq := A.uq
theorem Abs.new (A : Abs K c st σ H) (h : H p = none) : Abs K c st σ (upd H p o) := A.updFree (A.fN h) (A.bN h) (A.noOwn_new h)
theorem OwnAt.mono (x : OwnAt K c H a d) (h : Le c c') (hf : c'.F a = none) : OwnAt K c' H a d :=
  ⟨hf, by rw [h.B]; exact x.b, x.at_.mono h⟩
/-- an address that is nobody's stays from now on -/
def Gh.add (c : Gh) (a : Addr) (o : HO) : Gh := ⟨upd c.F a o, c.B, c.am⟩
theorem Abs.le_add (A : Abs K c st σ H) (h : H a = some o) : Le c (c.add a o) :=
  ⟨fun x u e => by
    unfold Gh.add
    by_cases z : x = a
    · subst z
      have := A.fH x u e
      rw [h] at this; cases this
      exact upd_same
    · show upd c.F a o x = some u
      rw [upd_ne z]; exact e, rfl, [], by simp [Gh.add]⟩
theorem Abs.addF (A : Abs K c st σ H) (h : H a = some o) (hb : c.B a = none) (hn : NoOwn st σ c a) : Abs K (c.add a o) st σ H where
  fH := fun x u e => by
    by_cases z : x = a
    · subst z
      have e' : (upd c.F x o) x = some u := e
      rw [upd_same] at e'; cases e'; exact h
    · have e' : (upd c.F a o) x = some u := e
      rw [upd_ne z] at e'; exact A.fH x u e'
  bH := A.bH
  fB := fun x e => by
    by_cases z : x = a
    · subst z; exact hb
    · refine A.fB x fun q => e ?_
      show upd c.F a o x = none
      rw [upd_ne z]; exact q
  len := A.len
  sl := fun i t e => by
    have q := A.sl i t e
    cases t with
    | un => trivial
    | fz d =>
      obtain ⟨v, e2, r⟩ := q
      exact ⟨v, e2, Rp.mono (A.le_add h) d v r⟩
    | ow d =>
      obtain ⟨x, e2, r⟩ := q
      refine ⟨x, e2, r.mono (A.le_add h) ?_⟩
      show upd c.F a o x = none
      rw [upd_ne fun z => hn (.inl i) ⟨⟨d, e⟩, by rw [e2, z]⟩]
      exact r.f
  shl := A.shl
  sh := fun n d e => by
    obtain ⟨x, e2, r⟩ := A.sh n d e
    refine ⟨x, e2, r.mono (A.le_add h) ?_⟩
    show upd c.F a o x = none
    rw [upd_ne fun z => hn (.inr n) (by rw [← z]; exact e2)]
    exact r.f
  uq := A.uq
theorem Abs.newF (A : Abs K c st σ H) (h : H p = none) : Abs K (c.add p o) st σ (upd H p o) :=
  (A.new h).addF upd_same (A.bN h) (A.noOwn_new h)
theorem Abs.newLe (A : Abs K c st σ H) (h : H p = none) : Le c (c.add p o) := (A.new (o := o) h).le_add upd_same
theorem add_at : (c.add p o).F p = some o := upd_same
/-- a name is forgotten -/
theorem Abs.slUn (A : Abs K c st σ H) (i : Nat) : Abs K c { st with sl := st.sl.set i .un } σ H where
  fH := A.fH
  bH := A.bH
  fB := A.fB
  len := by simpa using A.len
  sl := fun j t e => by
    by_cases z : i = j
    · subst z
      have hi : i < st.sl.length := by have := (List.getElem?_eq_some_iff.mp e).1; simpa using this
      rw [List.getElem?_set_self hi] at e
      cases e
      trivial
    · rw [List.getElem?_set_ne z] at e
      exact A.sl j t e
  shl := A.shl
  sh := A.sh
  uq := fun a k k' h h' => by
    have sub : ∀ k, Owns { st with sl := st.sl.set i .un } σ c a k → Owns st σ c a k := fun k h => by
      cases k with
      | inl j =>
        obtain ⟨⟨d, e⟩, e2⟩ := h
        by_cases z : i = j
        · subst z
          have hi : i < st.sl.length := by have := (List.getElem?_eq_some_iff.mp e).1; simpa using this
          have e' : (st.sl.set i .un)[i]? = some (.ow d) := e
          rw [List.getElem?_set_self hi] at e'
          cases e'
        · have e' : (st.sl.set i .un)[j]? = some (.ow d) := e
          rw [List.getElem?_set_ne z] at e'
          exact ⟨⟨d, e'⟩, e2⟩
      | inr n => exact h
    exact A.uq a k k' (sub k h) (sub k' h')
/-- behind that the address is nobody's -/
theorem Abs.noOwn_un (A : Abs K c st σ H) {i : Nat} (h : Owns st σ c a (.inl i)) : NoOwn { st with sl := st.sl.set i .un } σ c a := fun k hk => by
  have e1 : Owns st σ c a k := by
    cases k with
    | inl j =>
      obtain ⟨⟨d, e⟩, e2⟩ := hk
      by_cases z : i = j
      · subst z
        exact h
      · have e' : (st.sl.set i .un)[j]? = some (.ow d) := e
        rw [List.getElem?_set_ne z] at e'
        exact ⟨⟨d, e'⟩, e2⟩
    | inr n => exact hk
  have e2 := A.uq a _ _ e1 h
  subst e2
  obtain ⟨⟨d, e⟩, _⟩ := hk
  have e' : (st.sl.set i .un)[i]? = some (.ow d) := e
  have hi : i < st.sl.length := by have := (List.getElem?_eq_some_iff.mp e').1; simpa using this
  rw [List.getElem?_set_self hi] at e'
  cases e'
theorem Abs.slFz (A : Abs K c st σ H) {i : Nat} {v : V} (e : σ[i]? = some (some v)) (r : Rp K c d v) : Abs K c { st with sl := st.sl.set i (.fz d) } σ H where
  fH := A.fH
  bH := A.bH
  fB := A.fB
  len := by simpa using A.len
  sl := fun j t e1 => by
    by_cases z : i = j
    · subst z
      have hi : i < st.sl.length := by have := (List.getElem?_eq_some_iff.mp e1).1; simpa using this
      rw [List.getElem?_set_self hi] at e1
      cases e1
      exact ⟨v, e, r⟩
    · rw [List.getElem?_set_ne z] at e1
      exact A.sl j t e1
  shl := A.shl
  sh := A.sh
  uq := fun a k k' h h' => by
    have sub : ∀ k, Owns { st with sl := st.sl.set i (.fz d) } σ c a k → Owns st σ c a k := fun k h => by
      cases k with
      | inl j =>
        obtain ⟨⟨d', e⟩, e2⟩ := h
        by_cases z : i = j
        · subst z
          have e' : (st.sl.set i (.fz d))[i]? = some (.ow d') := e
          have hi : i < st.sl.length := by have := (List.getElem?_eq_some_iff.mp e').1; simpa using this
          rw [List.getElem?_set_self hi] at e'
          cases e'
        · have e' : (st.sl.set i (.fz d))[j]? = some (.ow d') := e
          rw [List.getElem?_set_ne z] at e'
          exact ⟨⟨d', e'⟩, e2⟩
      | inr n => exact h
    exact A.uq a k k' (sub k h) (sub k' h')
theorem Abs.slOw (A : Abs K c st σ H) {i : Nat} (e : σ[i]? = some (some (.ref a))) (r : OwnAt K c H a d) (hn : NoOwn st σ c a) : Abs K c { st with sl := st.sl.set i (.ow d) } σ H where
  fH := A.fH
  bH := A.bH
  fB := A.fB
  len := by simpa using A.len
  sl := fun j t e1 => by
    by_cases z : i = j
    · subst z
      have hi : i < st.sl.length := by have := (List.getElem?_eq_some_iff.mp e1).1; simpa using this
      rw [List.getElem?_set_self hi] at e1
      cases e1
      exact ⟨a, e, r⟩
    · rw [List.getElem?_set_ne z] at e1
      exact A.sl j t e1
  shl := A.shl
  sh := A.sh
  uq := fun b k k' h h' => by
    have sub : ∀ k, Owns { st with sl := st.sl.set i (.ow d) } σ c b k → Owns st σ c b k ∨ (k = .inl i ∧ b = a) := fun k h => by
      cases k with
      | inl j =>
        obtain ⟨⟨d', e1⟩, e2⟩ := h
        by_cases z : i = j
        · subst z
          rw [e] at e2
          cases e2
          exact .inr ⟨rfl, rfl⟩
        · have e' : (st.sl.set i (.ow d))[j]? = some (.ow d') := e1
          rw [List.getElem?_set_ne z] at e'
          exact .inl ⟨⟨d', e'⟩, e2⟩
      | inr n => exact .inl h
    rcases sub k h with h1 | ⟨h1, z1⟩ <;> rcases sub k' h' with h2 | ⟨h2, z2⟩
    · exact A.uq b k k' h1 h2
    · subst z2; exact absurd h1 (hn k)
    · subst z1; exact absurd h2 (hn k')
    · rw [h1, h2]
/-- a name is stored: first it is forgotten -/
theorem Abs.sig (A : Abs K c st σ H) (i : Nat) (v : V) : Abs K c { st with sl := st.sl.set i .un } (σ.set i (some v)) H where
  fH := A.fH
  bH := A.bH
  fB := A.fB
  len := by simpa using A.len
  sl := fun j t e => by
    by_cases z : i = j
    · subst z
      have hi : i < st.sl.length := by have := (List.getElem?_eq_some_iff.mp e).1; simpa using this
      rw [List.getElem?_set_self hi] at e
      cases e
      trivial
    · rw [List.getElem?_set_ne z] at e
      rw [List.getElem?_set_ne z]
      exact A.sl j t e
  shl := A.shl
  sh := A.sh
  uq := fun a k k' h h' => by
    have sub : ∀ k, Owns { st with sl := st.sl.set i .un } (σ.set i (some v)) c a k → Owns st σ c a k := fun k h => by
      cases k with
      | inl j =>
        obtain ⟨⟨d, e⟩, e2⟩ := h
        by_cases z : i = j
        · subst z
          have e' : (st.sl.set i .un)[i]? = some (.ow d) := e
          have hi : i < st.sl.length := by have := (List.getElem?_eq_some_iff.mp e').1; simpa using this
          rw [List.getElem?_set_self hi] at e'
          cases e'
        · have e' : (st.sl.set i .un)[j]? = some (.ow d) := e
          rw [List.getElem?_set_ne z] at e' e2
          exact ⟨⟨d, e'⟩, e2⟩
      | inr n => exact h
    exact A.uq a k k' (sub k h) (sub k' h')
theorem Abs.noOwn_sig {i : Nat} {v : V} (h : NoOwn st σ c a) : NoOwn { st with sl := st.sl.set i .un } (σ.set i (some v)) c a := fun k hk => by
  refine h k ?_
  cases k with
  | inl j =>
    obtain ⟨⟨d, e⟩, e2⟩ := hk
    by_cases z : i = j
    · subst z
      have e' : (st.sl.set i .un)[i]? = some (.ow d) := e
      have hi : i < st.sl.length := by have := (List.getElem?_eq_some_iff.mp e').1; simpa using this
      rw [List.getElem?_set_self hi] at e'
      cases e'
    · have e' : (st.sl.set i .un)[j]? = some (.ow d) := e
      rw [List.getElem?_set_ne z] at e' e2
      exact ⟨⟨d, e'⟩, e2⟩
  | inr n => exact hk
theorem set_set {α : Type} (l : List α) (i : Nat) (x y : α) : (l.set i x).set i y = l.set i y := by simp
theorem Abs.setFz (A : Abs K c st σ H) {i : Nat} {v : V} (hi : i < st.sl.length) (r : Rp K c d v) : Abs K c { st with sl := st.sl.set i (.fz d) } (σ.set i (some v)) H := by
  have A1 := (A.sig i v).slFz (i := i) (d := d) (v := v) (by rw [List.getElem?_set_self (by rw [← A.len]; exact hi)]) r
  simpa using A1
theorem Abs.setOw (A : Abs K c st σ H) {i : Nat} (hi : i < st.sl.length) (r : OwnAt K c H a d) (hn : NoOwn st σ c a) : Abs K c { st with sl := st.sl.set i (.ow d) } (σ.set i (some (.ref a))) H := by
  have A1 := (A.sig i (.ref a)).slOw (i := i) (d := d) (by rw [List.getElem?_set_self (by rw [← A.len]; exact hi)]) r (Abs.noOwn_sig hn)
  simpa using A1
/-- the own list of a name is kept for good -/
theorem Abs.freeze (A : Abs K c st σ H) {i : Nat} {ds : List D} (h : st.sl[i]? = some (.ow (.lst ds))) : ∃ c' v, Le c c' ∧ Abs K c' { st with sl := st.sl.set i (.fz (.lst ds)) } σ H ∧ σ[i]? = some (some v) ∧ Rp K c' (.lst ds) v := by
  obtain ⟨a, e, q⟩ := A.sl i _ h
  obtain ⟨xs, e2, r⟩ := q.at_
  have hn := A.noOwn_un (a := a) ⟨⟨_, h⟩, e⟩
  have A1 := (A.slUn i).addF e2 q.b hn
  have le := A.le_add e2
  have rr : Rp K (c.add a (.lst xs)) (.lst ds) (.ref a) := by
    simp only [Rp]
    exact ⟨a, xs, rfl, .inl (.inl add_at), RpL.mono le ds xs r⟩
  have A2 := A1.slFz e rr
  simp only [set_set] at A2
  exact ⟨_, _, le, A2, e, rr⟩
/-- the own thing of a name is changed -/
theorem Abs.writeO (A : Abs K c st σ H) {i : Nat} {o : HO} {d' : D} (h : st.sl[i]? = some (.ow d)) (e : σ[i]? = some (some (.ref a))) (r : OwnIs K c (upd H a o) a d') :
    Abs K c { st with sl := st.sl.set i (.ow d') } σ (upd H a o) := by
  obtain ⟨a', e', q⟩ := A.sl i _ h
  rw [e] at e'; cases e'
  have hn := A.noOwn_un (a := a) ⟨⟨_, h⟩, e⟩
  have A1 := ((A.slUn i).updFree (o := o) q.f q.b hn).slOw (d := d') e ⟨q.f, q.b, r⟩ hn
  simpa using A1
/-- the own list of a name is changed -/
theorem Abs.write (A : Abs K c st σ H) {i : Nat} {es : List D} {ys : List V} (h : st.sl[i]? = some (.ow d)) (e : σ[i]? = some (some (.ref a))) (r : RpL K c es ys) :
    Abs K c { st with sl := st.sl.set i (.ow (.lst es)) } σ (upd H a (.lst ys)) := by
  obtain ⟨a', e', q⟩ := A.sl i _ h
  rw [e] at e'; cases e'
  have hn := A.noOwn_un (a := a) ⟨⟨_, h⟩, e⟩
  have A1 := ((A.slUn i).updFree (o := .lst ys) q.f q.b hn).slOw (d := .lst es) e ⟨q.f, q.b, ys, upd_same, r⟩ hn
  simpa using A1
theorem Abs.own (A : Abs K c st σ H) {i : Nat} {es : List D} (h : st.sl[i]? = some (.ow (.lst es))) : ∃ a ds xs, σ[i]? = some (some (.ref a)) ∧ D.lst es = .lst ds ∧ H a = some (.lst xs) ∧ RpL K c ds xs := by
  obtain ⟨a, e, q⟩ := A.sl i _ h
  obtain ⟨xs, e2, r⟩ := q.at_
  exact ⟨a, es, xs, e, rfl, e2, r⟩
/-- a shared list is changed -/
theorem Abs.shSet (A : Abs K c st σ H) {n : Nat} {es : List D} {ys : List V} (h : c.am[n]? = some a) (r : RpL K c es ys) :
    Abs K c { st with sh := st.sh.set n (.lst es) } σ (upd H a (.lst ys)) := by
  obtain ⟨d0, q⟩ := A.owned (a := a) (k := .inr n) h
  refine ⟨fun x u e => ?_, fun x u e => ?_, A.fB, A.len, fun i t e => ?_, by simpa using A.shl, fun m d e => ?_, A.uq⟩
  · rw [upd_ne fun z => by rw [z, q.f] at e; cases e]; exact A.fH x u e
  · rw [upd_ne fun z => by rw [z, q.b] at e; cases e]; exact A.bH x u e
  · have qq := A.sl i t e
    cases t with
    | un => trivial
    | fz d => exact qq
    | ow d =>
      obtain ⟨x, e2, rr⟩ := qq
      refine ⟨x, e2, rr.to (upd_ne fun z => ?_)⟩
      have := A.uq a (.inl i) (.inr n) ⟨⟨d, e⟩, by rw [e2, z]⟩ h
      cases this
  · by_cases z : n = m
    · subst z
      have hn : n < st.sh.length := by have := (List.getElem?_eq_some_iff.mp e).1; simpa using this
      rw [List.getElem?_set_self hn] at e
      cases e
      exact ⟨a, h, q.f, q.b, ys, upd_same, r⟩
    · rw [List.getElem?_set_ne z] at e
      obtain ⟨x, e2, rr⟩ := A.sh m d e
      refine ⟨x, e2, rr.to (upd_ne fun y => ?_)⟩
      have := A.uq a (.inr n) (.inr m) h (by rw [← y]; exact e2)
      cases this
      exact z rfl
/-- a shared list more -/
theorem Abs.shNew (A : Abs K c st σ H) (q : OwnAt K c H a d) (hn : NoOwn st σ c a) : Abs K ⟨c.F, c.B, c.am ++ [a]⟩ { st with sh := st.sh ++ [d] } σ H ∧ Le c ⟨c.F, c.B, c.am ++ [a]⟩ ∧ Rp K ⟨c.F, c.B, c.am ++ [a]⟩ (.ref st.sh.length) (.ref a) := by
  have le : Le c ⟨c.F, c.B, c.am ++ [a]⟩ := ⟨fun _ _ h => h, rfl, [a], rfl⟩
  refine ⟨⟨A.fH, A.bH, A.fB, A.len, fun i t e => ?_, by simp [A.shl], fun n d' e => ?_, fun b k k' h h' => ?_⟩, le, ?_⟩
  · have qq := A.sl i t e
    cases t with
    | un => trivial
    | fz d =>
      obtain ⟨v, e2, r⟩ := qq
      exact ⟨v, e2, Rp.mono le d v r⟩
    | ow d =>
      obtain ⟨x, e2, r⟩ := qq
      exact ⟨x, e2, r.mono le r.f⟩
  · by_cases z : n < st.sh.length
    · rw [List.getElem?_append_left z] at e
      obtain ⟨x, e2, r⟩ := A.sh n d' e
      exact ⟨x, am_get le e2, r.mono le r.f⟩
    · have hlt : n < (st.sh ++ [d]).length := (List.getElem?_eq_some_iff.mp e).1
      have hn2 : n = st.sh.length := by simp at hlt; omega
      subst hn2
      simp at e
      subst e
      exact ⟨a, by rw [A.shl]; simp, q.mono le q.f⟩
  · have sub : ∀ k, Owns { st with sh := st.sh ++ [d] } σ ⟨c.F, c.B, c.am ++ [a]⟩ b k → Owns st σ c b k ∨ (k = .inr c.am.length ∧ b = a) := fun k h => by
      cases k with
      | inl j => exact .inl h
      | inr n =>
        have h1 : (c.am ++ [a])[n]? = some b := h
        by_cases z : n < c.am.length
        · rw [List.getElem?_append_left z] at h1
          exact .inl h1
        · have hlt : n < (c.am ++ [a]).length := (List.getElem?_eq_some_iff.mp h1).1
          have hn2 : n = c.am.length := by simp at hlt; omega
          subst hn2
          simp at h1
          exact .inr ⟨rfl, h1.symm⟩
    rcases sub k h with h1 | ⟨h1, z1⟩ <;> rcases sub k' h' with h2 | ⟨h2, z2⟩
    · exact A.uq b k k' h1 h2
    · subst z2; exact absurd h1 (hn k)
    · subst z1; exact absurd h2 (hn k')
    · rw [h1, h2]
  · simp only [Rp]
    exact ⟨a, rfl, by rw [A.shl]; simp⟩
/-- others hold more, or less -/
theorem Abs.withB (A : Abs K c st σ H) {B : Hp} (h1 : ∀ x u, B x = some u → H x = some u) (h2 : ∀ x, B x ≠ none → c.F x = none ∧ NoOwn st σ c x) : Abs K ⟨c.F, B, c.am⟩ st σ H where
  fH := A.fH
  bH := h1
  fB := fun x e => by
    cases q : B x with
    | none => exact q
    | some u => exact absurd (h2 x (by rw [q]; simp)).1 e
  len := A.len
  sl := fun i t e => by
    have qq := A.sl i t e
    cases t with
    | un => trivial
    | fz d =>
      obtain ⟨v, e2, r⟩ := qq
      exact ⟨v, e2, Rp.ofB d v r⟩
    | ow d =>
      obtain ⟨x, e2, r⟩ := qq
      refine ⟨x, e2, r.f, ?_, OwnIs.ofB r.at_⟩
      cases q : B x with
      | none => exact q
      | some u => exact absurd ⟨⟨d, e⟩, e2⟩ ((h2 x (by rw [q]; simp)).2 (.inl i))
  shl := A.shl
  sh := fun n d e => by
    obtain ⟨x, e2, r⟩ := A.sh n d e
    refine ⟨x, e2, r.f, ?_, OwnIs.ofB r.at_⟩
    cases q : B x with
    | none => exact q
    | some u => exact absurd e2 ((h2 x (by rw [q]; simp)).2 (.inr n))
  uq := A.uq
theorem Abs.lessB (A : Abs K c st σ H) {B : Hp} (h : ∀ x u, B x = some u → c.B x = some u) : Abs K ⟨c.F, B, c.am⟩ st σ H :=
  A.withB (fun x u e => A.bH x u (h x u e)) fun x e => by
    cases q : B x with
    | none => exact absurd q e
    | some u =>
      have hb := h x u q
      refine ⟨?_, fun k hk => ?_⟩
      · cases q2 : c.F x with
        | none => rfl
        | some o => have := A.fB x (by rw [q2]; simp); rw [hb] at this; cases this
      · obtain ⟨d, r⟩ := A.owned hk
        have := r.b
        rw [hb] at this; cases this
/-- a thing of nobody's is held while others run -/
theorem Abs.hold (A : Abs K c st σ H) (h : H p = some o) (hf : c.F p = none) (hb : c.B p = none) (hn : NoOwn st σ c p) : Abs K ⟨c.F, upd c.B p o, c.am⟩ st σ H :=
  A.withB (fun x u e => by
    by_cases z : x = p
    · subst z; rw [upd_same] at e; cases e; exact h
    · rw [upd_ne z] at e; exact A.bH x u e) fun x e => by
    by_cases z : x = p
    · subst z; exact ⟨hf, hn⟩
    · rw [upd_ne z] at e
      refine ⟨?_, fun k hk => ?_⟩
      · cases q2 : c.F x with
        | none => rfl
        | some o => exact absurd (A.fB x (by rw [q2]; simp)) e
      · obtain ⟨d, r⟩ := A.owned hk
        exact e r.b
/-- .. and let go: what came while it was held -/
theorem Abs.unhold {B : Hp} {am : List Addr} {F : Hp} {c' : Gh} (A : Abs K c' st σ H) (le : Le ⟨F, upd B p o, am⟩ c') (hb : B p = none) :
    Abs K ⟨c'.F, B, c'.am⟩ st σ H ∧ H p = some o ∧ c'.F p = none ∧ NoOwn st σ c' p ∧ Le ⟨F, B, am⟩ ⟨c'.F, B, c'.am⟩ := by
  have eB : c'.B = upd B p o := le.B
  have e1 : c'.B p = some o := by rw [eB]; exact upd_same
  refine ⟨A.lessB fun x u e => ?_, A.bH p o e1, ?_, fun k hk => ?_, ⟨le.F, rfl, le.am⟩⟩
  · rw [eB, upd_ne fun z => by rw [z, hb] at e; cases e]; exact e
  · cases q2 : c'.F p with
    | none => rfl
    | some o => have := A.fB p (by rw [q2]; simp); rw [e1] at this; cases this
  · obtain ⟨d, r⟩ := A.owned hk
    have := r.b
    rw [e1] at this; cases this
end

end Pv

set_option maxRecDepth 100000
/-! Pv.Sat: a reading that follows the evaluator, and how readings are put together. -/
namespace Pv
open PySem PySem.Spec L2

/-- a wish about exceptions: what is raised, the ghost, the heap -/
abbrev Ws := D → Gh → Hp → Prop
def W0 : Ws := fun _ _ _ => False
section
variable (K : PySem.W.Frag) (W : Ws)
def Sat {α β : Type} (c : Gh) (σ : St) (r : R α) (rel : Gh → α → β → Prop) (Q : β → Hp → Prop) : Prop := match r with
  | .ok a st' => ∀ c' b H', Le c c' → Abs K c' st' σ H' → rel c' a b → Q b H'
  | .ex x st' => ∀ c' H', Le c c' → Abs K c' st' σ H' → W x c' H'
  | .no => False
/-- how a value may come: a list new, a tuple new or not -/
def Post (c : Gh) (H : Hp) (z : D) (Q : VK) : Prop := match z with
  | .lst ds => ∀ p xs, H p = none → RpL K c ds xs → xs.length ≤ sizeLine → Q (.ref p) (upd H p (.lst xs))
  | .tup ds => (∀ v, Rp K c (.tup ds) v → Q v H) ∧ ∀ p xs, H p = none → RpL K c ds xs → xs.length ≤ sizeLine → Q (.ref p) (upd H p (.tup xs))
  | z => ∀ v, Rp K c z v → Q v H
/-- .. of any kind, nothing said of a list's being new -/
def PostD (c : Gh) (H : Hp) (z : D) (Q : VK) : Prop := (∀ v, Rp K c z v → Q v H) ∧ match z with
  | .lst ds => ∀ p xs, H p = none → RpL K c ds xs → xs.length ≤ sizeLine → Q (.ref p) (upd H p (.lst xs))
  | .tup ds => ∀ p xs, H p = none → RpL K c ds xs → xs.length ≤ sizeLine → Q (.ref p) (upd H p (.tup xs))
  | _ => True
def SatF (c : Gh) (σ : St) (r : R D) (Q : VK) : Prop := match r with
  | .ok z st' => ∀ c' H', Le c c' → Abs K c' st' σ H' → Post K c' H' z Q
  | .ex x st' => ∀ c' H', Le c c' → Abs K c' st' σ H' → W x c' H'
  | .no => False
/-- an expression's reading -/
def tD (f : M D) : TE := fun σ H Q => ∃ st c, Abs K c st σ H ∧ Sat K W c σ (f st) (Rp K) Q
/-- .. where a list is new -/
def tF (f : M D) : TE := fun σ H Q => ∃ st c, Abs K c st σ H ∧ SatF K W c σ (f st) Q
def relP (σ : St) (c : Gh) (p : P) (v : V) : Prop := match p with
  | .dv d => Rp K c d v
  | .sl i => σ[i]? = some (some v)
def relPs (σ : St) (c : Gh) : List P → List V → Prop
  | [], vs => vs = []
  | p :: ps, vs => ∃ v r, vs = v :: r ∧ relP K σ c p v ∧ relPs σ c ps r
/-- .. where it may be a thing that will change -/
def tP (f : M P) : TE := fun σ H Q => ∃ st c, Abs K c st σ H ∧ Sat K W c σ (f st) (relP K σ) Q
def tDs (f : M (List D)) : TA := fun σ H Q => ∃ st c, Abs K c st σ H ∧ Sat K W c σ (f st) (RpL K) Q
def tPs (f : M (List P)) : TA := fun σ H Q => ∃ st c, Abs K c st σ H ∧ Sat K W c σ (f st) (relPs K σ) Q
def tT (f : M Bool) : TT := fun σ H Q => ∃ st c, Abs K c st σ H ∧ Sat K W c σ (f st) (fun _ b k => b = k) Q
end

section
variable {K : PySem.W.Frag} {W : Ws} {α β γ δ : Type} {c c' : Gh} {σ : St} {H H' : Hp} {st : S}
theorem Sat.mono {r : R α} {rel : Gh → α → β → Prop} {Q : β → Hp → Prop} (h : Sat K W c σ r rel Q) (l : Le c c') : Sat K W c' σ r rel Q := by
  cases r with
  | ok a s => exact fun c2 b H' l2 A r => h c2 b H' (l.trans l2) A r
  | ex x s => exact fun c2 H' l2 A => h c2 H' (l.trans l2) A
  | no => exact h
theorem SatF.mono {r : R D} {Q : VK} (h : SatF K W c σ r Q) (l : Le c c') : SatF K W c' σ r Q := by
  cases r with
  | ok a s => exact fun c2 H' l2 A => h c2 H' (l.trans l2) A
  | ex x s => exact fun c2 H' l2 A => h c2 H' (l.trans l2) A
  | no => exact h
theorem Sat.bind {r : R α} {g : α → S → R γ} {rel : Gh → γ → δ → Prop} {Q : δ → Hp → Prop} (relA : Gh → α → β → Prop) (h : Sat K W c σ (r.bind g) rel Q) :
    Sat K W c σ r relA fun v H1 => ∃ st1 c1 a, Le c c1 ∧ Abs K c1 st1 σ H1 ∧ relA c1 a v ∧ Sat K W c1 σ (g a st1) rel Q := by
  cases r with
  | ok a s => exact fun c2 b H' l A q => ⟨s, c2, a, l, A, q, Sat.mono h l⟩
  | ex x s => exact h
  | no => exact h
theorem SatF.bind {r : R α} {g : α → S → R D} {Q : VK} (relA : Gh → α → β → Prop) (h : SatF K W c σ (r.bind g) Q) :
    Sat K W c σ r relA fun v H1 => ∃ st1 c1 a, Le c c1 ∧ Abs K c1 st1 σ H1 ∧ relA c1 a v ∧ SatF K W c1 σ (g a st1) Q := by
  cases r with
  | ok a s => exact fun c2 b H' l A q => ⟨s, c2, a, l, A, q, SatF.mono h l⟩
  | ex x s => exact h
  | no => exact h
/-- a part that touches nothing -/
theorem bind_ok {r : R α} {g : α → S → R γ} {a : α} {s : S} (e : r = .ok a s) : r.bind g = g a s := by rw [e]; rfl
theorem Sat.ofO {o : Option α} {st : S} {rel : Gh → α → β → Prop} {Q : β → Hp → Prop} (h : Sat K W c σ (ofO o st) rel Q) : ∃ a, o = some a ∧ Sat K W c σ (.ok a st) rel Q := by
  cases o with
  | none => exact h.elim
  | some a => exact ⟨a, rfl, h⟩
theorem SatF.ofO {o : Option D} {st : S} {Q : VK} (h : SatF K W c σ (ofO o st) Q) : ∃ a, o = some a ∧ SatF K W c σ (.ok a st) Q := by
  cases o with
  | none => exact h.elim
  | some a => exact ⟨a, rfl, h⟩
theorem Sat.now {a : α} {b : β} {rel : Gh → α → β → Prop} {Q : β → Hp → Prop} (h : Sat K W c σ (.ok a st) rel Q) (A : Abs K c st σ H) (r : rel c a b) : Q b H := h c b H (.refl c) A r
theorem Sat.at {a : α} {b : β} {rel : Gh → α → β → Prop} {Q : β → Hp → Prop} (h : Sat K W c σ (.ok a st) rel Q) (l : Le c c') (A : Abs K c' st σ H) (r : rel c' a b) : Q b H := h c' b H l A r
theorem SatF.now {z : D} {Q : VK} (h : SatF K W c σ (.ok z st) Q) (A : Abs K c st σ H) : Post K c H z Q := h c H (.refl c) A
/-- where nothing is asked of a list's being new -/
theorem Sat.post {z : D} {Q : VK} (h : Sat K W c σ (.ok z st) (Rp K) Q) (A : Abs K c st σ H) : PostD K c H z Q := by
  refine ⟨fun v r => h c v H (.refl c) A r, ?_⟩
  cases z with
  | lst ds =>
    intro p xs hp r hz
    refine h (c.add p (.lst xs)) (.ref p) _ (A.newLe hp) (A.newF hp) ?_
    simp only [Rp]
    exact ⟨p, xs, rfl, .inl (.inl add_at), RpL.mono (A.newLe hp) ds xs r⟩
  | tup ds =>
    intro p xs hp r hz
    refine h (c.add p (.tup xs)) (.ref p) _ (A.newLe hp) (A.newF hp) ?_
    simp only [Rp]
    exact ⟨p, xs, rfl, .inl (.inl add_at), RpL.mono (A.newLe hp) ds xs r⟩
  | non => trivial
  | bl _ => trivial
  | int _ => trivial
  | str _ => trivial
  | dict _ => trivial
  | ref _ => trivial
theorem PostD.toPost {z : D} {Q : VK} (h : PostD K c H z Q) : Post K c H z Q := by
  obtain ⟨h1, h2⟩ := h
  cases z with
  | lst ds => exact h2
  | tup ds => exact ⟨h1, h2⟩
  | non => exact h1
  | bl _ => exact h1
  | int _ => exact h1
  | str _ => exact h1
  | dict _ => exact h1
  | ref _ => exact h1
theorem Sat.toF {r : R D} {Q : VK} (h : Sat K W c σ r (Rp K) Q) : SatF K W c σ r Q := by
  cases r with
  | ok z s =>
    intro c' H' l A
    exact (Sat.post (h.mono l) A).toPost
  | ex x s => exact h
  | no => exact h
theorem tD_tF {f : M D} {Q : VK} (h : tD K W f σ H Q) : tF K W f σ H Q := by
  obtain ⟨st, c, A, h⟩ := h
  exact ⟨st, c, A, h.toF⟩
theorem relP.mono {p : P} {v : V} (l : Le c c') (h : relP K σ c p v) : relP K σ c' p v := by
  cases p with
  | dv d => exact Rp.mono l d v h
  | sl i => exact h
theorem relPs.mono (l : Le c c') : ∀ {ps : List P} {vs : List V}, relPs K σ c ps vs → relPs K σ c' ps vs
  | [], _, h => h
  | p :: ps, _, h => by
    obtain ⟨v, r, e, h1, h2⟩ := h
    exact ⟨v, r, e, h1.mono l, relPs.mono l h2⟩

/-- a value as it is seen just now -/
def View (K : PySem.W.Frag) (c : Gh) (H : Hp) (d : D) (v : V) : Prop :=
  Rp K c d v ∨ ∃ a, v = .ref a ∧ OwnIs K c H a d
theorem relP.view {p : P} {v : V} {d : D} (h : relP K σ c p v) (A : Abs K c st σ H) (e : p.get st = some d) : View K c H d v := by
  cases p with
  | dv d' => simp only [P.get, Option.some.injEq] at e; subst e; exact .inl h
  | sl i =>
    have e' : (match st.sl[i]? with | some (.fz d) => some d | some (.ow d) => some d | _ => none) = some d := e
    have h' : σ[i]? = some (some v) := h
    cases q : st.sl[i]? with
    | none => rw [q] at e'; cases e'
    | some t =>
      have z := A.sl i t q
      cases t with
      | un => rw [q] at e'; cases e'
      | fz d2 =>
        rw [q] at e'; cases e'
        obtain ⟨v2, e2, r⟩ := z
        rw [h'] at e2; cases e2
        exact .inl r
      | ow d2 =>
        rw [q] at e'; cases e'
        obtain ⟨a, e2, r⟩ := z
        rw [h'] at e2; cases e2
        exact .inr ⟨a, rfl, r.at_⟩
theorem Sat.getP {p : P} {g : D → S → R α} {rel : Gh → α → β → Prop} {Q : β → Hp → Prop} (h : Sat K W c σ ((Pv.getP p st).bind g) rel Q) : ∃ d, p.get st = some d ∧ Sat K W c σ (g d st) rel Q := by
  unfold Pv.getP at h
  cases e : p.get st with
  | none => rw [e] at h; exact h.elim
  | some d => rw [e] at h; exact ⟨d, rfl, h⟩
theorem SatF.getP {p : P} {g : D → S → R D} {Q : VK} (h : SatF K W c σ ((Pv.getP p st).bind g) Q) : ∃ d, p.get st = some d ∧ SatF K W c σ (g d st) Q := by
  unfold Pv.getP at h
  cases e : p.get st with
  | none => rw [e] at h; exact h.elim
  | some d => rw [e] at h; exact ⟨d, rfl, h⟩
/-- views of all -/
def Views (K : PySem.W.Frag) (c : Gh) (H : Hp) : List D → List V → Prop
  | [], vs => vs = []
  | d :: ds, vs => ∃ v r, vs = v :: r ∧ View K c H d v ∧ Views K c H ds r
theorem getPs_ok : ∀ {ps : List P} {ds : List D} {s s' : S}, getPs ps s = .ok ds s' → s' = s ∧ ∀ {vs : List V}, relPs K σ c ps vs → Abs K c s σ H → Views K c H ds vs
  | [], ds, s, s', e => by
    have e' : (R.ok [] s : R (List D)) = .ok ds s' := e
    cases e'
    exact ⟨rfl, fun h _ => h⟩
  | p :: ps, ds, s, s', e => by
    have e' : (Pv.getP p s).bind (fun d s => (getPs ps s).bind fun ds s => (R.ok (d :: ds) s : R (List D))) = .ok ds s' := e
    unfold Pv.getP at e'
    cases q : p.get s with
    | none => rw [q] at e'; cases e'
    | some d =>
      rw [q] at e'
      have e2 : (getPs ps s).bind (fun ds s => (R.ok (d :: ds) s : R (List D))) = .ok ds s' := e'
      cases q2 : getPs ps s with
      | no => rw [q2] at e2; cases e2
      | ex x t => rw [q2] at e2; cases e2
      | ok es t =>
        rw [q2] at e2
        cases e2
        obtain ⟨h1, h2⟩ := getPs_ok q2
        subst h1
        exact ⟨rfl, fun {vs} hr A => by
          obtain ⟨v, r, ev, r1, r2⟩ := hr
          exact ⟨v, r, ev, r1.view A q, h2 r2 A⟩⟩
theorem getPs_no_ex : ∀ {ps : List P} {s s' : S} {x : D}, getPs ps s ≠ .ex x s'
  | [], s, s', x, e => by
    have e' : (R.ok [] s : R (List D)) = .ex x s' := e
    cases e'
  | p :: ps, s, s', x, e => by
    have e' : (Pv.getP p s).bind (fun d s => (getPs ps s).bind fun ds s => (R.ok (d :: ds) s : R (List D))) = .ex x s' := e
    unfold Pv.getP at e'
    cases q : p.get s with
    | none => rw [q] at e'; cases e'
    | some d =>
      rw [q] at e'
      have e2 : (getPs ps s).bind (fun ds s => (R.ok (d :: ds) s : R (List D))) = .ex x s' := e'
      cases q2 : getPs ps s with
      | no => rw [q2] at e2; cases e2
      | ex x t => exact getPs_no_ex q2
      | ok es t => rw [q2] at e2; cases e2
/-! ### views as sequences, as data -/
section
variable (hF : ∀ a o, c.F a = some o → H a = some o)
include hF
theorem View.lst {ds : List D} {v : V} (h : View K c H (.lst ds) v) : ∃ a xs, v = .ref a ∧ SqL K H a xs ∧ RpL K c ds xs := by
  rcases h with h | ⟨a, rfl, xs, e2, r⟩
  · simp only [Rp] at h
    obtain ⟨a, xs, rfl, q, r⟩ := h
    exact ⟨a, xs, rfl, sqL_mono hF q, r⟩
  · exact ⟨a, xs, rfl, .inl (.inl e2), r⟩
theorem View.tup {ds : List D} {v : V} (h : View K c H (.tup ds) v) : ∃ a xs, v = .ref a ∧ SqT K H a xs ∧ RpL K c ds xs := by
  rcases h with h | ⟨a, rfl, h⟩
  · simp only [Rp] at h
    obtain ⟨a, xs, rfl, q, r⟩ := h
    exact ⟨a, xs, rfl, sqT_mono hF q, r⟩
  · exact h.elim
theorem View.dp {d : D} {v : V} (h : View K c H d v) (hp : d.pl = true) : Dp K H v d.toP := by
  rcases h with h | ⟨a, rfl, h⟩
  · exact Rp.dp hF d v hp h
  · rcases h.cases with ⟨ds, xs, rfl, e2, r⟩ | ⟨_, _, rfl, _⟩ | ⟨_, _, rfl, _⟩
    · simp only [D.toP]
      simp only [D.pl] at hp
      exact .lst (.inl (.inl e2)) (RpL.dp hF ds xs hp r)
    · simp [D.pl] at hp
    · simp [D.pl] at hp
end
theorem View.rp {d : D} {v : V} (h : View K c H d v) (hn : ∀ ds, d ≠ .lst ds) (hd : ∀ kvs, d ≠ .dict kvs := by intro _ e; cases e) : Rp K c d v := by
  rcases h with h | ⟨a, rfl, h⟩
  · exact h
  · rcases h.cases with ⟨ds, xs, rfl, e2, r⟩ | ⟨_, _, rfl, _⟩ | ⟨_, _, rfl, _⟩
    · exact absurd rfl (hn ds)
    · exact absurd rfl (hd _)
    · exact absurd rfl (hd _)
theorem View.int {i : Int} {v : V} (h : View K c H (.int i) v) : v = .int i := by
  have := h.rp (fun ds => by intro e; cases e)
  simpa only [Rp] using this
theorem View.str {i : Str} {v : V} (h : View K c H (.str i) v) : v = .str i := by
  have := h.rp (fun ds => by intro e; cases e)
  simpa only [Rp] using this
theorem View.bl {i : Bool} {v : V} (h : View K c H (.bl i) v) : v = .bl i := by
  have := h.rp (fun ds => by intro e; cases e)
  simpa only [Rp] using this
theorem View.non {v : V} (h : View K c H .non v) : v = .non := by
  have := h.rp (fun ds => by intro e; cases e)
  simpa only [Rp] using this
theorem View.mono {d : D} {v : V} (l : Le c c') (h : View K c H d v) : View K c' H d v := by
  rcases h with h | ⟨a, e, h⟩
  · exact .inl (Rp.mono l d v h)
  · exact .inr ⟨a, e, h.mono l⟩
end

/-! ### the judgements, weakened -/
section
variable {X : Cx} {e : Expr}
theorem PE.imp {t t' : TE} (h : PE X e t) (k : ∀ σ H Q, t' σ H Q → t σ H Q) : PE X e t' := ⟨fun pins s σ H Q I q => h.run pins s σ H Q I (k σ H Q q)⟩
theorem PT.imp {t t' : TT} (h : PT X e t) (k : ∀ σ H Q, t' σ H Q → t σ H Q) : PT X e t' := ⟨fun pins s σ H Q I q => h.run pins s σ H Q I (k σ H Q q)⟩
theorem PW.imp {t t' : TT} (h : PW X e t) (k : ∀ σ H Q, t' σ H Q → t σ H Q) : PW X e t' := ⟨fun wh pins s σ H Q I q => h.run wh pins s σ H Q I (k σ H Q q)⟩
theorem PA.imp {es : List Expr} {t t' : TA} (h : PA X es t) (k : ∀ σ H Q, t' σ H Q → t σ H Q) : PA X es t' := ⟨fun pos pins s σ H Q I q => h.run pos pins s σ H Q I (k σ H Q q)⟩
theorem PS.imp {s : Stmt} {t t' : TS} (h : PS X s t) (k : ∀ D σ H, t' D σ H → t D σ H) : PS X s t' := ⟨fun pins s σ H D I q => h.run pins s σ H D I (k D σ H q)⟩
theorem PSs.imp {s : List Stmt} {t t' : TS} (h : PSs X s t) (k : ∀ D σ H, t' D σ H → t D σ H) : PSs X s t' := ⟨fun pins s σ H D I q => h.run pins s σ H D I (k D σ H q)⟩
theorem PG.imp {t t' : TG} (h : PG X e t) (k : ∀ v σ H Q, t' v σ H Q → t v σ H Q) : PG X e t' := ⟨fun pins s σ H v u Q I r q => h.run pins s σ H v u Q I r (k v σ H Q q)⟩
theorem PGs.imp {es : List Expr} {t t' : TGs} (h : PGs X es t) (k : ∀ v σ H Q, t' v σ H Q → t v σ H Q) : PGs X es t' := ⟨fun pins s σ H v u Q I r q => h.run pins s σ H v u Q I r (k v σ H Q q)⟩
theorem PI.imp {tg : Expr} {t t' : TI} (h : PI X tg e t) (k : ∀ σ H Q, t' σ H Q → t σ H Q) : PI X tg e t' := ⟨fun pins s σ H R I q => h.run pins s σ H R I (k σ H R q)⟩
variable {W : Ws}
theorem pe_F {f : M D} (h : PE X e (tF X.K W f)) : PE X e (tD X.K W f) := PE.imp h fun σ H Q => tD_tF
end

end Pv

set_option maxRecDepth 100000
/-! Pv.Dic: dicts of a name's own. -/
namespace Pv
open PySem PySem.Spec L2
/-! ### keys -/
mutual
theorem nk_eq : ∀ x y : D, x.nums = true → y.nums = true → D.eqv x y = decide (nk x = nk y)
  | .int a, y, hx, hy => by
    cases y with
    | int b =>
      show (a == b) = decide (NestedKey.num a = NestedKey.num b)
      rw [Bool.eq_iff_iff, beq_iff_eq, decide_eq_true_eq]
      exact ⟨fun h => by rw [h], fun h => by injection h⟩
    | tup ds =>
      show false = decide (NestedKey.num a = NestedKey.tup (nks ds))
      rw [eq_comm, decide_eq_false_iff_not]
      intro h; cases h
    | _ => cases hy
  | .tup ds, y, hx, hy => by
    cases y with
    | int b =>
      show false = decide (NestedKey.tup (nks ds) = NestedKey.num b)
      rw [eq_comm, decide_eq_false_iff_not]
      intro h; cases h
    | tup es =>
      show D.eqvL ds es = decide (NestedKey.tup (nks ds) = NestedKey.tup (nks es))
      rw [nks_eq ds es hx hy, Bool.eq_iff_iff, decide_eq_true_eq, decide_eq_true_eq]
      exact ⟨fun h => by rw [h], fun h => by injection h⟩
    | _ => cases hy
  | .non, y, hx, hy => by cases hx
  | .bl _, y, hx, hy => by cases hx
  | .str _, y, hx, hy => by cases hx
  | .lst _, y, hx, hy => by cases hx
  | .dict _, y, hx, hy => by cases hx
  | .ref _, y, hx, hy => by cases hx
theorem nks_eq : ∀ xs ys : List D, D.numsL xs = true → D.numsL ys = true → D.eqvL xs ys = decide (nks xs = nks ys)
  | [], [], _, _ => by simp [D.eqvL, nks]
  | [], y :: ys, _, _ => by simp [D.eqvL, nks]
  | x :: xs, [], _, _ => by simp [D.eqvL, nks]
  | x :: xs, y :: ys, hx, hy => by
    simp only [D.numsL, Bool.and_eq_true] at hx hy
    show (D.eqv x y && D.eqvL xs ys) = decide (nk x :: nks xs = nk y :: nks ys)
    rw [nk_eq x y hx.1 hy.1, nks_eq xs ys hx.2 hy.2, Bool.eq_iff_iff]
    simp
end
mutual
theorem nk_depth : ∀ x : D, x.nums = true → (nk x).depth = x.dep
  | .int a, h => rfl
  | .tup ds, h => by
    show NestedKey.depthAll (nks ds) + 1 = D.depL ds + 1
    rw [nks_depth ds h]
  | .non, h => by cases h
  | .bl _, h => by cases h
  | .str _, h => by cases h
  | .lst _, h => by cases h
  | .dict _, h => by cases h
  | .ref _, h => by cases h
theorem nks_depth : ∀ xs : List D, D.numsL xs = true → NestedKey.depthAll (nks xs) = D.depL xs
  | [], _ => rfl
  | x :: xs, h => by
    simp only [D.numsL, Bool.and_eq_true] at h
    show max (nk x).depth (NestedKey.depthAll (nks xs)) = max x.dep (D.depL xs)
    rw [nk_depth x h.1, nks_depth xs h.2]
end
mutual
theorem nk_hash (w w' : World) : ∀ x : D, x.nums = true → (nk x).hash w = (nk x).hash w'
  | .int a, h => rfl
  | .tup ds, h => by
    show reduceHash (Builtin.Tuple.tupleHashOf (NestedKey.hashes w (nks ds))) = reduceHash (Builtin.Tuple.tupleHashOf (NestedKey.hashes w' (nks ds)))
    rw [nks_hash w w' ds h]
  | .non, h => by cases h
  | .bl _, h => by cases h
  | .str _, h => by cases h
  | .lst _, h => by cases h
  | .dict _, h => by cases h
  | .ref _, h => by cases h
theorem nks_hash (w w' : World) : ∀ xs : List D, D.numsL xs = true → NestedKey.hashes w (nks xs) = NestedKey.hashes w' (nks xs)
  | [], _ => rfl
  | x :: xs, h => by
    simp only [D.numsL, Bool.and_eq_true] at h
    show (nk x).hash w :: NestedKey.hashes w (nks xs) = (nk x).hash w' :: NestedKey.hashes w' (nks xs)
    rw [nk_hash w w' x h.1, nks_hash w w' xs h.2]
end
theorem fit_true {k : D} (h : keyFit true k = true) : ∃ ds, k = .tup ds ∧ k.nums = true ∧ k.dep ≤ 8 := by
  cases k with
  | tup ds =>
    have h : (D.numsL ds && decide ((D.tup ds).dep ≤ 8)) = true := h
    rw [Bool.and_eq_true, decide_eq_true_eq] at h
    exact ⟨ds, rfl, h.1, h.2⟩
  | _ => cases h
theorem fit_false {k : D} (h : keyFit false k = true) : ∃ q, keyOf k = some q := by
  cases k with
  | int i => exact ⟨_, rfl⟩
  | str i => exact ⟨_, rfl⟩
  | _ => cases h
theorem dLook_cons (p : D × D) (ps : List (D × D)) (k : D) : dLook (p :: ps) k = if p.1.eqv k = true then some p.2 else dLook ps k := by
  unfold dLook
  by_cases h : p.1.eqv k = true
  · rw [if_pos h, List.find?_cons_of_pos (p := fun p : D × D => p.1.eqv k) h]; rfl
  · rw [if_neg h, List.find?_cons_of_neg (p := fun p : D × D => p.1.eqv k) h]
theorem atKey_cons (x : NestedKey × Addr × Value) (xs : List (NestedKey × Addr × Value)) (k : NestedKey) : atKey (x :: xs) k = if x.1 = k then some x.2 else atKey xs k := by
  unfold atKey
  by_cases h : x.1 = k
  · rw [if_pos h, List.find?_cons_of_pos (p := fun x : NestedKey × Addr × Value => decide (x.1 = k)) (decide_eq_true h)]; rfl
  · rw [if_neg h, List.find?_cons_of_neg (p := fun x : NestedKey × Addr × Value => decide (x.1 = k)) (by simpa using h)]
theorem keyOf_eq {a b : D} {p q : L2.Key} (ha : keyOf a = some p) (hb : keyOf b = some q) : D.eqv a b = decide (p = q) := by
  cases a <;> first | cases ha; done | skip
  all_goals cases b <;> first | cases hb; done | skip
  all_goals
    simp only [keyOf, Option.some.injEq] at ha hb
    subst ha hb
    rw [Bool.eq_iff_iff, decide_eq_true_eq]
    simp [D.eqv]
section
variable {X : Cx} {pins : List (Addr × Obj)} {σ : St} {H : Hp} {s : Shared} {c : Gh} {a : Addr}
mutual
theorem nk_is (I : L2.Inv X pins σ H s) (hF : ∀ a o, c.F a = some o → H a = some o) : ∀ (d : D) (v : V) (u : Value), d.nums = true → Rp X.K c d v → RelV v u → NestedIs s.heap (nk d) u
  | .int b, v, u, h, r, q => by
    simp only [Rp] at r
    subst r
    obtain ⟨t, rfl⟩ := q
    exact .int b t
  | .tup ds, v, u, h, r, q => by
    simp only [Rp] at r
    obtain ⟨a, xs, rfl, hq, rl⟩ := r
    cases q
    obtain ⟨its, rv, ⟨o, ho, hc, n, hd⟩, hz⟩ := I.tuple (sqT_mono hF hq)
    exact .tup ho hc hd (by simpa using nks_are I hF ds xs its h rl rv)
  | .non, _, _, h, _, _ => by cases h
  | .bl _, _, _, h, _, _ => by cases h
  | .str _, _, _, h, _, _ => by cases h
  | .lst _, _, _, h, _, _ => by cases h
  | .dict _, _, _, h, _, _ => by cases h
  | .ref _, _, _, h, _, _ => by cases h
theorem nks_are (I : L2.Inv X pins σ H s) (hF : ∀ a o, c.F a = some o → H a = some o) : ∀ (ds : List D) (vs : List V) (us : List Value), D.numsL ds = true → RpL X.K c ds vs → Vals vs us → NestedAll s.heap (nks ds) us
  | [], vs, us, _, r, q => by
    simp only [RpL] at r
    subst r; cases q
    exact .nil
  | d :: ds, vs, us, h, r, q => by
    simp only [D.numsL, Bool.and_eq_true] at h
    simp only [RpL] at r
    obtain ⟨y, ys, rfl, r1, r2⟩ := r
    cases q with
    | cons q1 q2 => exact .cons (nk_is I hF d y _ h.1 r1 q1) (nks_are I hF ds ys _ h.2 r2 q2)
end
/-- a key, in the heap -/
theorem keyAt (I : L2.Inv X pins σ H s) (hF : ∀ a o, c.F a = some o → H a = some o) {k : D} (hk : keyFit true k = true) {b : Addr} (r : Rp X.K c k (.ref b)) : (nestedKind X.prog X.w).is s.heap (nk k) b := by
  obtain ⟨ds, rfl, h1, h2⟩ := fit_true hk
  exact ⟨nk_is I hF _ _ _ h1 r rfl, by rw [nk_depth _ h1]; exact h2⟩
/-! ### what stands at a key -/
theorem kv_look {kvs : List (D × D)} {vs : List (L2.Key × V)} {k : D} {q : L2.Key} (hk : keyOf k = some q) : KVp X.K c kvs vs → (dLook kvs k = none ∧ valV vs q = none) ∨ ∃ d v, dLook kvs k = some d ∧ valV vs q = some v ∧ Rp X.K c d v := by
  induction kvs generalizing vs with
  | nil => intro h; cases h; exact .inl ⟨rfl, rfl⟩
  | cons p ps ih =>
    rintro ⟨⟨q1, v1⟩, r, rfl, e1, r1, r2⟩
    have e := keyOf_eq e1 hk
    by_cases h : q1 = q
    · have e' : p.1.eqv k = true := by rw [e]; exact decide_eq_true h
      exact .inr ⟨p.2, v1, by rw [dLook_cons, if_pos e'], valV_pos h, r1⟩
    · have e' : ¬ p.1.eqv k = true := by rw [e]; simpa using h
      rw [dLook_cons, if_neg e', valV_neg h]
      exact ih r2
theorem kt_look {kvs : List (D × D)} {xs : List (NestedKey × Addr × Value)} {k : D} (hk : keyFit true k = true) : KTp X.K c kvs xs → (dLook kvs k = none ∧ atKey xs (nk k) = none) ∨ ∃ d v u b, dLook kvs k = some d ∧ atKey xs (nk k) = some (b, u) ∧ RelV v u ∧ Rp X.K c d v := by
  obtain ⟨_, _, kn, _⟩ := fit_true hk
  induction kvs generalizing xs with
  | nil => intro h; cases h; exact .inl ⟨rfl, rfl⟩
  | cons p ps ih =>
    rintro ⟨⟨q1, b1, u1⟩, r, rfl, f1, e1, r1, ⟨v1, rv, r3⟩, r2⟩
    obtain ⟨_, _, pn, _⟩ := fit_true f1
    have e := nk_eq p.1 k pn kn
    have e1 : q1 = nk p.1 := e1
    by_cases h : nk p.1 = nk k
    · have e' : p.1.eqv k = true := by rw [e]; exact decide_eq_true h
      exact .inr ⟨p.2, v1, u1, b1, by rw [dLook_cons, if_pos e'], by rw [atKey_cons, if_pos (show q1 = nk k by rw [e1, h])], rv, r3⟩
    · have e' : ¬ p.1.eqv k = true := by rw [e]; simpa using h
      rw [dLook_cons, if_neg e', atKey_cons, if_neg (show ¬ q1 = nk k by rw [e1]; exact h)]
      exact ih r2
theorem kt_keys (I : L2.Inv X pins σ H s) (hF : ∀ a o, c.F a = some o → H a = some o) : ∀ {kvs : List (D × D)} {xs : List (NestedKey × Addr × Value)}, KTp X.K c kvs xs → ∀ x ∈ xs, (nestedKind X.prog X.w).is s.heap x.1 x.2.1
  | [], _, h, x, hx => by cases h; cases hx
  | p :: ps, _, ⟨q, r, e, f1, e1, r1, _, r2⟩, x, hx => by
    subst e
    rcases List.mem_cons.mp hx with rfl | hx
    · rw [e1]; exact keyAt I hF f1 r1
    · exact kt_keys I hF r2 x hx
/-- the dict, in the heap -/
theorem dicAt (I : L2.Inv X pins σ H s) (hF : ∀ a o, c.F a = some o → H a = some o) {kvs : List (D × D)} {xs : List (NestedKey × Addr × Value)} (e : H a = some (DicO a xs)) (r : KTp X.K c kvs xs) :
    s.heap.DictOfH (nestedKind X.prog X.w) a xs ∧ xs.length ≤ sizeLine ∧ (a == sysModules) = false := by
  obtain ⟨⟨o, es, ep, h1, h2, h3, h4, h5, h6, h7⟩, _, _⟩ := (I.hok a _ e : ObjOk X.prog X.w H s.heap a (DicO a xs))
  exact ⟨⟨o, es, ep, h1, h2, h3, h4 _ _, kt_keys I hF r, h5⟩, h6, h7⟩
theorem key_kV {k : D} {q : L2.Key} {v : V} (hk : keyOf k = some q) (r : Rp X.K c k v) : v = kV q := by
  cases k <;> first | cases hk; done | skip
  · cases hk; simp only [Rp] at r; exact r
  · cases hk; simp only [Rp] at r; exact r
theorem roomN {P : Program} {w : World} (hu : X.A.units + 64 < cLine) : (nestedKind P w).room X.A.in1 := by
  show X.A.in1.units + 8 < cLine
  have : X.A.in1.units = X.A.units + 1 := by simp
  omega
/-! ### the operations -/
variable {A : Around} {E : Value → Shared → Prop} {t : Bool} {kvs : List (D × D)} {k : D} {y : V} {u : Value}
theorem own_in (hu : X.A.units + 64 < cLine) (I : L2.Inv X pins σ H s) (hF : ∀ a o, c.F a = some o → H a = some o) (h : OwnIs X.K c H a (dct t kvs)) (hk : keyFit t k = true) (r : Rp X.K c k y) (ry : RelV y u) {Q : Value → Shared → Prop}
    (q : ∀ s', L2.Inv X pins σ H s' → Q (.bool (dLook kvs k).isSome) s') : wpAny (model X.prog X.w) X.A (compareOp .In u (.ref a)) Q E s := by
  cases t with
  | false =>
    obtain ⟨vs, e, rk⟩ := h
    obtain ⟨key, ek⟩ := fit_false hk
    have := key_kV ek r
    subst this
    refine d_in (by omega) I (DGet.k e) ry fun s' I' => ?_
    rcases kv_look ek rk with ⟨e1, e2⟩ | ⟨d, v, e1, e2, _⟩
    · rw [e2, ← show (none : Option D).isSome = (none : Option V).isSome from rfl, ← e1]; exact q s' I'
    · rw [e2, ← show (some d).isSome = (some v).isSome from rfl, ← e1]; exact q s' I'
  | true =>
    obtain ⟨xs, e, rk⟩ := h
    obtain ⟨dd, hz, hs⟩ := dicAt I hF e rk
    obtain ⟨ds, rfl, _, _⟩ := fit_true hk
    have r' := r
    simp only [Rp] at r'
    obtain ⟨b, zs, rfl, _⟩ := r'
    cases ry
    refine wpAny_in_heap (roomN hu) (keyAt I hF hk r) hs dd ?_
    rcases kt_look hk rk with ⟨e1, e2⟩ | ⟨d, v, w, b', e1, e2, _⟩
    · rw [e2, ← show (none : Option D).isSome = (none : Option (Addr × Value)).isSome from rfl, ← e1]; exact q _ (I.tok _)
    · rw [e2, ← show (some d).isSome = (some (b', w)).isSome from rfl, ← e1]; exact q _ (I.tok _)
theorem own_typeIs (I : L2.Inv X pins σ H s) (hF : ∀ a o, c.F a = some o → H a = some o) (h : OwnIs X.K c H a (dct t kvs)) : s.TypeIs (.ref a) "dict" := by
  cases t with
  | false =>
    obtain ⟨vs, e, rk⟩ := h
    obtain ⟨z, hd, vs', rel, dd⟩ := dk_of I.hok e
    exact dd.typeIs
  | true =>
    obtain ⟨xs, e, rk⟩ := h
    exact (dicAt I hF e rk).1.typeIs
theorem own_notIn (hu : X.A.units + 64 < cLine) (I : L2.Inv X pins σ H s) (hF : ∀ a o, c.F a = some o → H a = some o) (h : OwnIs X.K c H a (dct t kvs)) (hk : keyFit t k = true) (r : Rp X.K c k y) (ry : RelV y u) {Q : Value → Shared → Prop}
    (q : ∀ s', L2.Inv X pins σ H s' → Q (.bool (!(dLook kvs k).isSome)) s') : wpAny (model X.prog X.w) X.A (compareOp .NotIn u (.ref a)) Q E s := by
  cases t with
  | false =>
    obtain ⟨vs, e, rk⟩ := h
    obtain ⟨key, ek⟩ := fit_false hk
    have := key_kV ek r
    subst this
    refine d_notIn (by omega) I (DGet.k e) ry fun s' I' => ?_
    rcases kv_look ek rk with ⟨e1, e2⟩ | ⟨d, v, e1, e2, _⟩
    · rw [e2, ← show (none : Option D).isSome = (none : Option V).isSome from rfl, ← e1]; exact q s' I'
    · rw [e2, ← show (some d).isSome = (some v).isSome from rfl, ← e1]; exact q s' I'
  | true =>
    obtain ⟨xs, e, rk⟩ := h
    obtain ⟨dd, hz, hs⟩ := dicAt I hF e rk
    obtain ⟨ds, rfl, _, _⟩ := fit_true hk
    have r' := r
    simp only [Rp] at r'
    obtain ⟨b, zs, rfl, _⟩ := r'
    cases ry
    refine notIn_keyed (knd := nestedKind X.prog X.w) (k := nk (.tup ds)) (roomN hu) (keyAt I hF hk r) hs ⟨xs, dd, rfl⟩ ?_
    rw [valueAt_pairsH, Option.isSome_map]
    rcases kt_look hk rk with ⟨e1, e2⟩ | ⟨d, v, w, b', e1, e2, _⟩
    · rw [e2, ← show (none : Option D).isSome = (none : Option (Addr × Value)).isSome from rfl, ← e1]; exact q _ (I.tok _)
    · rw [e2, ← show (some d).isSome = (some (b', w)).isSome from rfl, ← e1]; exact q _ (I.tok _)
theorem own_getItem (hu : X.A.units + 64 < cLine) (I : L2.Inv X pins σ H s) (hF : ∀ a o, c.F a = some o → H a = some o) (h : OwnIs X.K c H a (dct t kvs)) (hk : keyFit t k = true) (r : Rp X.K c k y) (ry : RelV y u) {d : D} (hl : dLook kvs k = some d) {Q : Value → Shared → Prop}
    (q : ∀ v w s', L2.Inv X pins σ H s' → Rp X.K c d v → RelV v w → Q w s') : wpAny (model X.prog X.w) X.A (getItem (.ref a) u) Q E s := by
  cases t with
  | false =>
    obtain ⟨vs, e, rk⟩ := h
    obtain ⟨key, ek⟩ := fit_false hk
    have := key_kV ek r
    subst this
    rcases kv_look ek rk with ⟨e1, e2⟩ | ⟨d', v, e1, e2, rd⟩
    · rw [hl] at e1; cases e1
    · rw [hl] at e1; cases e1
      refine d_getItem (by omega) I (by rw [← e2]; exact DGet.k e) ry fun w' s' I' rw' => q v w' s' I' rd rw'
  | true =>
    obtain ⟨xs, e, rk⟩ := h
    obtain ⟨dd, hz, hs⟩ := dicAt I hF e rk
    have r' := r
    obtain ⟨ds, rfl, _, _⟩ := fit_true hk
    simp only [Rp] at r'
    obtain ⟨b, zs, rfl, _⟩ := r'
    cases ry
    rcases kt_look hk rk with ⟨e1, e2⟩ | ⟨d', v, w, b', e1, e2, rv, rd⟩
    · rw [hl] at e1; cases e1
    · rw [hl] at e1; cases e1
      refine wpAny_getItem_heap (knd := nestedKind X.prog X.w) (roomN hu) (keyAt I hF hk r) dd e2 ?_
      exact q v w _ (I.tok _) rd rv
/-! ### stores -/
theorem dPut_look {kvs : List (D × D)} {k v : D} : dPut kvs k v = if (dLook kvs k).isSome = true then kvs.map (fun p => if p.1.eqv k = true then (p.1, v) else p) else kvs ++ [(k, v)] := by
  unfold dPut
  have : (kvs.any fun p => p.1.eqv k) = (dLook kvs k).isSome := by
    induction kvs with
    | nil => rfl
    | cons p ps ih =>
      rw [List.any_cons, dLook_cons]
      by_cases h : p.1.eqv k = true
      · rw [if_pos h, h]; rfl
      · rw [if_neg h, ← ih]
        have : p.1.eqv k = false := by simpa using h
        rw [this]; rfl
  rw [this]
theorem dPut_len (kvs : List (D × D)) (k v : D) : (dPut kvs k v).length ≤ kvs.length + 1 := by
  unfold dPut
  split
  · simp
  · simp
theorem kv_put {kvs : List (D × D)} {vs : List (L2.Key × V)} {k d : D} {q : L2.Key} {v : V} (hk : keyOf k = some q) (h : KVp X.K c kvs vs) (r : Rp X.K c d v) : KVp X.K c (dPut kvs k d) (putK vs q v) := by
  have hm : ∀ {kvs : List (D × D)} {vs : List (L2.Key × V)}, KVp X.K c kvs vs → KVp X.K c (kvs.map fun p => if p.1.eqv k = true then (p.1, d) else p) (vs.map fun kv => if kv.1 = q then (kv.1, v) else kv) := by
    intro kvs
    induction kvs with
    | nil => rintro vs h; cases h; rfl
    | cons p ps ih =>
      rintro vs ⟨⟨q1, v1⟩, r0, rfl, e1, r1, r2⟩
      have e := keyOf_eq e1 hk
      by_cases hh : q1 = q
      · have e' : p.1.eqv k = true := by rw [e]; exact decide_eq_true hh
        rw [List.map_cons, List.map_cons, if_pos e', if_pos hh]
        exact ⟨_, _, rfl, e1, r, ih r2⟩
      · have e' : ¬ p.1.eqv k = true := by rw [e]; simpa using hh
        rw [List.map_cons, List.map_cons, if_neg e', if_neg hh]
        exact ⟨_, _, rfl, e1, r1, ih r2⟩
  have ha : ∀ {kvs : List (D × D)} {vs : List (L2.Key × V)}, KVp X.K c kvs vs → KVp X.K c (kvs ++ [(k, d)]) (vs ++ [(q, v)]) := by
    intro kvs
    induction kvs with
    | nil => rintro vs h; cases h; exact ⟨_, _, rfl, hk, r, rfl⟩
    | cons p ps ih =>
      rintro vs ⟨q1, r0, rfl, e1, r1, r2⟩
      exact ⟨_, _, rfl, e1, r1, ih r2⟩
  rw [dPut_look]
  unfold putK
  rw [valV_any]
  rcases kv_look hk h with ⟨e1, e2⟩ | ⟨d', v', e1, e2, _⟩
  · rw [e1, e2]; exact ha h
  · rw [e1, e2]; exact hm h
theorem kt_put {kvs : List (D × D)} {xs : List (NestedKey × Addr × Value)} {k d : D} {b : Addr} {v : V} {u : Value} (hk : keyFit true k = true) (hb : Rp X.K c k (.ref b)) (h : KTp X.K c kvs xs) (rv : RelV v u) (r : Rp X.K c d v) : KTp X.K c (dPut kvs k d) (storedH xs (nk k) b u) := by
  obtain ⟨_, _, kn, _⟩ := fit_true hk
  have hm : ∀ {kvs : List (D × D)} {xs : List (NestedKey × Addr × Value)}, KTp X.K c kvs xs → KTp X.K c (kvs.map fun p => if p.1.eqv k = true then (p.1, d) else p) (xs.map (putAt (nk k) u)) := by
    intro kvs
    induction kvs with
    | nil => rintro vs h; cases h; rfl
    | cons p ps ih =>
      rintro vs ⟨⟨q1, b1, u1⟩, r0, rfl, f1, e1, r1, r3, r2⟩
      obtain ⟨_, _, pn, _⟩ := fit_true f1
      have e := nk_eq p.1 k pn kn
      have e1 : q1 = nk p.1 := e1
      by_cases hh : nk p.1 = nk k
      · have e' : p.1.eqv k = true := by rw [e]; exact decide_eq_true hh
        have e2 : putAt (nk k) u (q1, b1, u1) = (q1, b1, u) := by unfold putAt; rw [if_pos (show q1 = nk k by rw [e1, hh])]
        rw [List.map_cons, List.map_cons, if_pos e', e2]
        exact ⟨_, _, rfl, f1, e1, r1, ⟨v, rv, r⟩, ih r2⟩
      · have e' : ¬ p.1.eqv k = true := by rw [e]; simpa using hh
        have e2 : putAt (nk k) u (q1, b1, u1) = (q1, b1, u1) := by unfold putAt; rw [if_neg (show ¬ q1 = nk k by rw [e1]; exact hh)]
        rw [List.map_cons, List.map_cons, if_neg e', e2]
        exact ⟨_, _, rfl, f1, e1, r1, r3, ih r2⟩
  have ha : ∀ {kvs : List (D × D)} {xs : List (NestedKey × Addr × Value)}, KTp X.K c kvs xs → KTp X.K c (kvs ++ [(k, d)]) (xs ++ [(nk k, b, u)]) := by
    intro kvs
    induction kvs with
    | nil => rintro vs h; cases h; exact ⟨_, _, rfl, hk, rfl, hb, ⟨v, rv, r⟩, rfl⟩
    | cons p ps ih =>
      rintro vs ⟨q1, r0, rfl, f1, e1, r1, r3, r2⟩
      exact ⟨_, _, rfl, f1, e1, r1, r3, ih r2⟩
  rw [dPut_look]
  unfold storedH
  rcases kt_look hk h with ⟨e1, e2⟩ | ⟨d', v', u', b', e1, e2, _⟩
  · rw [e1, e2]; exact ha h
  · rw [e1, e2]; exact hm h
theorem kt_nums : ∀ {kvs : List (D × D)} {xs : List (NestedKey × Addr × Value)}, KTp X.K c kvs xs → ∀ (P P' : Program) (w w' : World), xs.map (entryOfKey (nestedKind P w)) = xs.map (entryOfKey (nestedKind P' w'))
  | [], _, h, _, _, _, _ => by cases h; rfl
  | p :: ps, _, ⟨q, r, e, f1, e1, _, _, r2⟩, P, P', w, w' => by
    subst e
    obtain ⟨_, _, pn, _⟩ := fit_true f1
    rw [List.map_cons, List.map_cons, kt_nums r2 P P' w w']
    congr 1
    show (⟨q.1.hash w, _, _⟩ : DictEntry) = ⟨q.1.hash w', _, _⟩
    rw [e1, nk_hash w w' p.1 pn]
theorem kt_len : ∀ {kvs : List (D × D)} {xs : List (NestedKey × Addr × Value)}, KTp X.K c kvs xs → kvs.length = xs.length
  | [], _, h => by cases h; rfl
  | p :: ps, _, ⟨q, r, e, _, _, _, _, r2⟩ => by subst e; simp [kt_len r2]
theorem kv_len : ∀ {kvs : List (D × D)} {vs : List (L2.Key × V)}, KVp X.K c kvs vs → kvs.length = vs.length
  | [], _, h => by cases h; rfl
  | p :: ps, _, ⟨q, r, e, _, _, r2⟩ => by subst e; simp [kv_len r2]
/-- such a dict, as the layer has it -/
theorem dicO_ok {P : Program} {w : World} {H' : Hp} {h' : Heap} {kvs : List (D × D)} {xs : List (NestedKey × Addr × Value)} (r : KTp X.K c kvs xs) (dd : h'.DictOfH (nestedKind P w) a xs) (hz : xs.length ≤ sizeLine) (hs : (a == sysModules) = false) : ObjOk P w H' h' a (DicO a xs) := by
  obtain ⟨o, es, ep, h1, h2, h3, h4, _, h5⟩ := dd
  exact ⟨⟨o, es, ep, h1, h2, h3, fun P' w' => h4.trans (kt_nums r _ _ _ _), h5, hz, hs⟩, ⟨o, h1⟩, fun g1 g2 p k => by
    obtain ⟨o', es', ep', ho', q'⟩ := p
    exact ⟨o', es', ep', k o' ho', q'⟩⟩
theorem own_setItem (hu : X.A.units + 64 < cLine) (I : L2.Inv X pins σ H s) (hF : ∀ a o, c.F a = some o → H a = some o) (h : OwnIs X.K c H a (dct t kvs)) (hk : keyFit t k = true) (r : Rp X.K c k y) (ry : RelV y u) {d : D} {v : V} {w : Value} (rd : Rp X.K c d v) (rv : RelV v w) (hl : kvs.length < sizeLine) {Q : Unit → Shared → Prop}
    (q : ∀ o s', L2.Inv X pins σ (upd H a o) s' → OwnIs X.K c (upd H a o) a (dct t (dPut kvs k d)) → Q () s') : wpAny (model X.prog X.w) X.A (setItem (.ref a) u w) Q E s := by
  cases t with
  | false =>
    obtain ⟨vs, e, rk⟩ := h
    obtain ⟨key, ek⟩ := fit_false hk
    have := key_kV ek r
    subst this
    exact d_setItem (by omega) I (DPut.k e (by rw [← kv_len rk]; exact hl)) ry rv fun s' I' => q _ s' I' ⟨_, upd_same, kv_put ek rk rd⟩
  | true =>
    obtain ⟨xs, e, rk⟩ := h
    obtain ⟨dd, hz, hs⟩ := dicAt I hF e rk
    have r' := r
    obtain ⟨ds, rfl, _, _⟩ := fit_true hk
    simp only [Rp] at r'
    obtain ⟨b, zs, rfl, _⟩ := r'
    cases ry
    have rk2 := kt_put hk r rk rv rd
    refine wpAny_setItem_heap (hsz := hz) (knd := nestedKind X.prog X.w) (roomN hu) (keyAt I hF hk r) dd fun h' dd' hsb => ?_
    have hl2 : (storedH xs (nk (.tup ds)) b w).length ≤ sizeLine := by
      rw [← kt_len rk2]
      have := dPut_len kvs (.tup ds) d
      omega
    obtain ⟨o, es, ep, g1, g2⟩ := dd'
    exact q _ _ (d_write I (by rw [e]; exact True.intro) hsb ⟨o, g1⟩ (dicO_ok rk2 ⟨o, es, ep, g1, g2⟩ hl2 hs)) ⟨_, upd_same, rk2⟩
/-- stores: a list, or a dict of one's own -/
def rSetO (K : PySem.W.Frag) : V → V → V → Hp → (Hp → Prop) → Prop := fun o i v H Q => rSetL o i v H Q ∨
  ∃ c a t kvs k d, (∀ a o, c.F a = some o → H a = some o) ∧ OwnIs K c H a (dct t kvs) ∧ o = .ref a ∧ keyFit t k = true ∧ Rp K c k i ∧ Rp K c d v ∧ kvs.length < sizeLine ∧ ∀ ob, OwnIs K c (upd H a ob) a (dct t (dPut kvs k d)) → Q (upd H a ob)
theorem set_own (hu : X.A.units + 64 < cLine) : PSet X (rSetO X.K) := by
  intro pins s σ H o i v ov iv u Q I ro ri rv h
  rcases h with h | ⟨c, a, t, kvs, k, d, hF, ho, rfl, hk, r1, r2, hl, q⟩
  · exact set_list pins s σ H o i v ov iv u Q I ro ri rv h
  · cases ro
    exact own_setItem hu I hF ho hk r1 ri r2 rv hl fun ob s' I' h' => ⟨_, I', q ob h'⟩
end
end Pv

set_option maxRecDepth 100000
/-! Pv.Ops: operators by values. -/
namespace Pv
open PySem PySem.Spec L2

section
variable {prog : Program} {w : World} {A : Around} {E : Value → Shared → Prop} {s : Shared}
theorem catLists {l b : Addr} {vs ws : List Value} {Q : Value → Shared → Prop} (h1 : s.heap.IsList l vs.toArray) (h2 : s.heap.IsList b ws.toArray) (hz : vs.length + ws.length ≤ sizeLine)
    (h : Q (.ref s.heap.objs.size) { s with heap := s.heap.push { cls := .type "list", data := .seq (vs ++ ws).toArray } }) : wpAny (model prog w) A (binaryOp .Add (.ref l) (.ref b)) Q E s := by
  obtain ⟨o1, e1, c1, n1, d1⟩ := id h1
  obtain ⟨o2, e2, c2, n2, d2⟩ := id h2
  obtain ⟨cls1, dd1, da1, sl1⟩ := o1
  obtain ⟨cls2, dd2, da2, sl2⟩ := o2
  simp only at c1 d1 c2 d2
  subst c1 d1 c2 d2
  refine concat_meets ⟨_, e1, rfl⟩ ⟨_, e2, rfl⟩ noFill_list_add seq_list_add PySem.F.slot_list_add PySem.F.entry_list_add (PySem.F.args_list_add_2 _ _) (PyProof.Rows.list_addW l b vs.toArray ws.toArray n1 n2 dd1 dd2 sl1 sl2 (by simpa using hz)) ⟨e1, e2, ?_⟩
  rw [show vs.toArray ++ ws.toArray = (vs ++ ws).toArray by simp]
  exact h
theorem mulList {l : Addr} {vs : List Value} {x : Int} {u : Tok} {Q : Value → Shared → Prop} (h1 : s.heap.IsList l vs.toArray) (hlo : -(2 ^ 62 : Int) ≤ x) (hhi : x < 2 ^ 62) (hz : vs.length * x.toNat ≤ sizeLine)
    (h : Q (.ref s.heap.objs.size) { s with heap := s.heap.push { cls := .type "list", data := .seq (List.replicate x.toNat vs).flatten.toArray } }) : wpAny (model prog w) A (binaryOp .Mult (.ref l) (.int x u)) Q E s := by
  obtain ⟨o1, e1, c1, n1, d1⟩ := id h1
  obtain ⟨cls1, dd1, da1, sl1⟩ := o1
  simp only at c1 d1
  subst c1 d1
  have hz2 : vs.toArray.size * x.toNat ≤ 2 ^ 24 := by rw [List.size_toArray]; exact hz
  refine wpAny_binaryOp_repeat_ref (T := "list") (U := "int") (by decide) ⟨_, e1, rfl⟩ (fun s' => typeIs_int s' x u) noFill_list_mul F.fills_int_mul F.slot_int_rmul repeat_list F.slot_int_index.lookup
    (call_meets F.slot_int_rmul (typeIs_int s x u) F.entry_int_rmul (F.args_int_rmul_2 _ _) (lm_int_rmul_list_any x u l vs.toArray n1 dd1 sl1)
      ⟨e1, rfl, ⟨_, e1, rfl⟩, call_meets F.slot_list_mul ⟨_, e1, rfl⟩ F.entry_list_mul (F.args_list_mul_2 _ _)
        (lm_list_mul_any l vs.toArray n1 dd1 sl1 x u (by simp [Builtin.List.listFitsIndex]; omega) (by omega) (by simp [Builtin.List.listTooLong, sizeLine]; omega))
        ⟨e1, ?_⟩⟩)
  rw [PyProof.Rows.listMul_foldl_if]
  exact h
theorem ne_of_false {b : Bool} (h : b = false) : ¬ b = true := fun z => by rw [h] at z; cases z
/-- tuple times int: the tuple itself -/
theorem tupMul_same (l : Addr) (items : Array Value) (n : Nat) (dd : Option Addr) (sl : Array (Option Value)) (x : Int) (u : Tok) (c0 : (decide (x < -(2 ^ 63)) || decide (x ≥ 2 ^ 63)) = false) (c1 : (items.isEmpty || x == 1) = true) :
    Meets (Builtin.«tuple.__mul__» ⟨[.ref l, .int x u], []⟩) (fun _ R s => s.heap.get? l = some { cls := .type "tuple", dict := dd, data := .seq items n, slots := sl } ∧ R (.ok (.ret (Value.ref l))) s) :=
  .of_wp fun prog w A R s h => by
    obtain ⟨hp, g, d, tk, os⟩ := s
    obtain ⟨hl, h⟩ := h
    have f1 := AutoSeq1.idx_int
    wp_walk using AutoSeq1.wpAny_loadPart' hl
    rw [if_neg (ne_of_false c0)]
    wp_walk using AutoSeq1.wpAny_loadPart' hl
    exact ⟨_, rfl, h⟩
/-- .. the empty one -/
theorem tupMul_none (l : Addr) (items : Array Value) (n : Nat) (dd : Option Addr) (sl : Array (Option Value)) (x : Int) (u : Tok) (c0 : (decide (x < -(2 ^ 63)) || decide (x ≥ 2 ^ 63)) = false) (c1 : (items.isEmpty || x == 1) = false) (c2 : (decide (x ≤ 0) || items.isEmpty) = true) :
    Meets (Builtin.«tuple.__mul__» ⟨[.ref l, .int x u], []⟩) (fun _ R s => s.heap.get? l = some { cls := .type "tuple", dict := dd, data := .seq items n, slots := sl } ∧
      R (.ok (.ret (Value.ref s.heap.objs.size))) { s with heap := s.heap.push { cls := Value.type "tuple", data := Data.seq #[] }, toks := s.toks }) :=
  .of_wp fun prog w A R s h => by
    obtain ⟨hp, g, d, tk, os⟩ := s
    obtain ⟨hl, h⟩ := h
    have f1 := AutoSeq1.idx_int
    wp_walk using AutoSeq1.wpAny_loadPart' hl
    rw [if_neg (ne_of_false c0)]
    wp_walk using AutoSeq1.wpAny_loadPart' hl
    exact ⟨_, rfl, h⟩
theorem repTup : seqRepeat? (.type "tuple") = pure (some (.builtin "tuple.__mul__")) := L2.repeat_tuple
theorem mulTup {l : Addr} {items : Array Value} {n : Nat} {dd : Option Addr} {sl : Array (Option Value)} {x : Int} {u : Tok} {Q : Value → Shared → Prop} {S : PySem.Spec} (ho : s.heap.get? l = some { cls := .type "tuple", dict := dd, data := .seq items n, slots := sl })
    (g : Meets (Builtin.«tuple.__mul__» ⟨[.ref l, .int x u], []⟩) S) (h : S A (wants Q E) s) : wpAny (model prog w) A (binaryOp .Mult (.ref l) (.int x u)) Q E s :=
  wpAny_binaryOp_repeat_ref (T := "tuple") (U := "int") (by decide) ⟨_, ho, rfl⟩ (fun s' => typeIs_int s' x u) noFill_tuple_mul F.fills_int_mul F.slot_int_rmul repTup F.slot_int_index.lookup
    (call_meets F.slot_int_rmul (typeIs_int s x u) F.entry_int_rmul (F.args_int_rmul_2 _ _) (L2.int_rmul_tuple x u l items n dd sl)
      ⟨ho, rfl, ⟨_, ho, rfl⟩, call_meets F.slot_tuple_mul ⟨_, ho, rfl⟩ F.entry_tuple_mul (F.args_tuple_mul_2 _ _) g h⟩)
end

/-! ### two-place operators -/
def rBin (K : PySem.W.Frag) (op : Operator) : R2 := fun x y H Q => ∃ c d e z, (∀ a o, c.F a = some o → H a = some o) ∧ View K c H d x ∧ View K c H e y ∧ binD op d e = some z ∧ Post K c H z Q
theorem post_int {K : PySem.W.Frag} {c : Gh} {H : Hp} {i : Int} {Q : VK} (h : Post K c H (.int i) Q) : Q (.int i) H := h _ (by simp only [Rp])
theorem post_str {K : PySem.W.Frag} {c : Gh} {H : Hp} {i : Str} {Q : VK} (h : Post K c H (.str i) Q) : Q (.str i) H := h _ (by simp only [Rp])
theorem post_bl {K : PySem.W.Frag} {c : Gh} {H : Hp} {i : Bool} {Q : VK} (h : Post K c H (.bl i) Q) : Q (.bl i) H := h _ (by simp only [Rp])
theorem lenOk_le {α : Type} {l : List α} (h : lenOk l = true) : l.length ≤ sizeLine := of_decide_eq_true h
theorem mkL_some {ds : List D} {z : D} (h : mkL ds = some z) : z = .lst ds ∧ ds.length ≤ sizeLine := by
  unfold mkL at h
  split at h
  · rename_i q; cases h; exact ⟨rfl, lenOk_le q⟩
  · cases h
theorem mkT_some {ds : List D} {z : D} (h : mkT ds = some z) : z = .tup ds ∧ ds.length ≤ sizeLine := by
  unfold mkT at h
  split at h
  · rename_i q; cases h; exact ⟨rfl, lenOk_le q⟩
  · cases h
theorem small_or {i j : Int} (h : (small i || small j) = true) : CMul i j := by
  unfold small at h
  rw [Bool.or_eq_true, Bool.and_eq_true, Bool.and_eq_true] at h
  rcases h with ⟨h1, h2⟩ | ⟨h1, h2⟩
  · exact .inl ⟨of_decide_eq_true h1, of_decide_eq_true h2⟩
  · exact .inr ⟨of_decide_eq_true h1, of_decide_eq_true h2⟩
theorem idx62_of {i : Int} (h : idx62 i = true) : -(2 ^ 62) ≤ i ∧ i < 2 ^ 62 := by
  unfold idx62 at h
  rw [Bool.and_eq_true] at h
  exact ⟨of_decide_eq_true h.1, of_decide_eq_true h.2⟩
theorem len_rep {α : Type} (l : List α) : ∀ n : Nat, (List.replicate n l).flatten.length = l.length * n
  | 0 => rfl
  | n + 1 => by rw [List.replicate_succ, List.flatten_cons, List.length_append, len_rep l n, Nat.mul_succ, Nat.add_comm]
theorem str_rep (x : Array Nat) : ∀ (n : Nat) (acc : Array Nat), (List.replicate n x).foldl (fun a b => a ++ b) acc = (acc.toList ++ (List.replicate n x.toList).flatten).toArray
  | 0, acc => by simp
  | n + 1, acc => by rw [List.replicate_succ, List.foldl_cons, str_rep x n, List.replicate_succ, List.flatten_cons]; simp
theorem strLen (x : Str) : x.length = x.cps.toList.length := by
  show x.cps.size = _
  simp

theorem RpL.nil_iff {K : PySem.W.Frag} {c : Gh} {ds : List D} {xs : List V} (r : RpL K c ds xs) : ds = [] ↔ xs = [] := by
  have := r.length
  constructor
  · intro e; subst e; exact List.eq_nil_of_length_eq_zero (by simpa using this.symm)
  · intro e; subst e; exact List.eq_nil_of_length_eq_zero (by simpa using this)
section
variable {X : Cx}
theorem op_bin (op : Operator) : OpR X (binaryOp op) (rBin X.K op) := by
  intro pins s σ H x y v u Q I rx ry ⟨c, d, e, z, hF, hd, he, hz, hq⟩
  unfold binD at hz
  split at hz
  · cases hz
    rw [hd.int] at rx; rw [he.int] at ry
    exact op_add pins s σ H _ _ v u Q I rx ry ⟨_, _, rfl, rfl, post_int hq⟩
  · split at hz
    · rename_i q
      cases hz
      rw [hd.str] at rx; rw [he.str] at ry
      exact op_add_str pins s σ H _ _ v u Q I rx ry ⟨_, _, rfl, rfl, q, post_str hq⟩
    · cases hz
  · -- tuple + tuple
    rename_i ds es
    obtain ⟨rfl, hl⟩ := mkT_some hz
    have vd := hd.rp (fun ds => by intro e; cases e)
    have ve := he.rp (fun ds => by intro e; cases e)
    obtain ⟨a, xs, rfl, qa, ra⟩ := hd.tup hF
    obtain ⟨b, ys, rfl, qb, rb⟩ := he.tup hF
    have l1 := ra.length
    have l2 := rb.length
    rw [List.length_append] at hl
    refine op_catA pins s σ H _ _ v u Q I rx ry ⟨a, b, xs, ys, rfl, rfl, qa, qb, by omega, fun e => ?_, fun _ e => ?_, fun _ _ p hp => ?_⟩
    · have : ds = [] := ra.nil_iff.mpr e
      subst this
      exact hq.1 _ ve
    · have : es = [] := rb.nil_iff.mpr e
      subst this
      rw [List.append_nil] at hq
      exact hq.1 _ vd
    · exact hq.2 p _ hp (ra.append rb) (by rw [List.length_append]; omega)
  · -- list + list
    rename_i ds es
    obtain ⟨rfl, hl⟩ := mkL_some hz
    obtain ⟨a, xs, rfl, qa, ra⟩ := hd.lst hF
    obtain ⟨b, ys, rfl, qb, rb⟩ := he.lst hF
    cases rx; cases ry
    have l1 := ra.length
    have l2 := rb.length
    rw [List.length_append] at hl
    obtain ⟨its, r1, p1, z1⟩ := I.list qa
    obtain ⟨its2, r2, p2, z2⟩ := I.list qb
    have m1 := r1.length
    have m2 := r2.length
    refine catLists p1.isList p2.isList (by omega) ?_
    exact ⟨.ref _, _, I.lnew (t' := s.toks) (r1.append r2) (by rw [List.length_append]; omega), rfl, hq _ _ I.fresh (ra.append rb) (by rw [List.length_append]; omega)⟩
  · cases hz
    rw [hd.int] at rx; rw [he.int] at ry
    exact op_sub pins s σ H _ _ v u Q I rx ry ⟨_, _, rfl, rfl, post_int hq⟩
  · split at hz
    · rename_i q
      cases hz
      rw [hd.int] at rx; rw [he.int] at ry
      exact op_mul pins s σ H _ _ v u Q I rx ry ⟨_, _, rfl, rfl, small_or q, post_int hq⟩
    · cases hz
  · -- list * int
    split at hz
    · rename_i ds k q
      cases hz
      rw [Bool.and_eq_true] at q
      obtain ⟨h1, h2⟩ := idx62_of q.1
      have h3 := of_decide_eq_true q.2
      rw [he.int] at ry
      obtain ⟨a, xs, rfl, qa, ra⟩ := hd.lst hF
      have l1 := ra.length
      cases rx
      obtain ⟨t, rfl⟩ := ry
      obtain ⟨its, r1, p1, z1⟩ := I.list qa
      have m1 := r1.length
      refine mulList p1.isList h1 h2 (by rw [← m1, ← l1]; exact h3) ?_
      have hz : ((List.replicate k.toNat xs).flatten).length ≤ sizeLine := by rw [len_rep, ← l1]; exact h3
      exact ⟨.ref _, _, I.lnew (t' := s.toks) (r1.rep k.toNat) hz, rfl, hq _ _ I.fresh (ra.rep k.toNat) hz⟩
    · cases hz
  · -- tuple * int
    split at hz
    · rename_i ds k q
      cases hz
      rw [Bool.and_eq_true] at q
      obtain ⟨h1, h2⟩ := idx62_of q.1
      have h3 := of_decide_eq_true q.2
      rw [he.int] at ry
      have vd := hd.rp (fun ds => by intro e; cases e)
      obtain ⟨a, xs, rfl, qa, ra⟩ := hd.tup hF
      have l1 := ra.length
      cases rx
      obtain ⟨t, rfl⟩ := ry
      obtain ⟨its, r1, p1, z1⟩ := I.tuple qa
      have m1 := r1.length
      obtain ⟨o1, e1, c1, n1, d1⟩ := p1
      obtain ⟨cls1, dd1, da1, sl1⟩ := o1
      simp only at c1 d1
      subst c1 d1
      have c0 : (decide (k < -(2 ^ 63)) || decide (k ≥ 2 ^ 63)) = false := by
        rw [decide_eq_false (by omega), decide_eq_false (by omega)]; rfl
      have hz : ((List.replicate k.toNat xs).flatten).length ≤ sizeLine := by rw [len_rep, ← l1]; exact h3
      by_cases hs : (its.toArray.isEmpty || k == 1) = true
      · refine mulTup e1 (tupMul_same a its.toArray n1 dd1 sl1 k t c0 hs) ⟨e1, ?_⟩
        refine ⟨.ref a, H, I, rfl, hq.1 _ ?_⟩
        have : (List.replicate k.toNat ds).flatten = ds := by
          rw [Bool.or_eq_true] at hs
          rcases hs with hs | hs
          · have : its = [] := by simpa using hs
            subst this
            have : ds = [] := by
              apply List.eq_nil_of_length_eq_zero
              rw [l1, m1]; rfl
            subst this
            exact PyProof.Rows.lm_rep_nil _
          · have : k = 1 := by simpa using hs
            subst this
            simp
        rw [this]
        exact vd
      · have hs' : (its.toArray.isEmpty || k == 1) = false := by simpa using hs
        by_cases h0 : k ≤ 0
        · refine mulTup e1 (tupMul_none a its.toArray n1 dd1 sl1 k t c0 hs' (by rw [decide_eq_true h0]; rfl)) ⟨e1, ?_⟩
          have e0 : k.toNat = 0 := by omega
          have hq2 := hq.2 s.heap.objs.size [] I.fresh (by rw [e0]; exact RpL.nil) (Nat.zero_le _)
          refine ⟨.ref s.heap.objs.size, _, I.laid (t' := s.toks) (o := .tup []) (fun b ob q => Heap.get?_push_of_some _ q) (Nat.le_refl _) ?_, rfl, hq2⟩
          exact ⟨Nat.zero_le _, [], .nil, PyProof.Rows.IsTup.new _ _⟩
        · have hi : its.toArray.isEmpty = false := by
            rw [Bool.or_eq_false_iff] at hs'
            exact hs'.1
          have hb : (((its.toArray.size : Nat) : Int)) * k = ((its.length * k.toNat : Nat) : Int) := by
            rw [List.size_toArray, Int.natCast_mul, Int.toNat_of_nonneg (by omega)]
          have hb2 : its.length * k.toNat ≤ sizeLine := by rw [← m1, ← l1]; exact h3
          have sl : sizeLine = 16777216 := sizeLine_eq
          refine mulTup e1 (L2.tuple_mulW a its.toArray n1 dd1 sl1 k t c0 hs' (by rw [decide_eq_false h0, hi]; rfl) (by rw [hb]; omega) (by unfold Builtin.Tuple.tupleTooMany; rw [hb]; exact decide_eq_false (by omega)) (by rw [L2.size_rep, List.size_toArray, len_rep]; exact hb2)) ⟨e1, ?_⟩
          rw [L2.size_rep]
          have hq2 := hq.2 s.heap.objs.size _ I.fresh (ra.rep k.toNat) hz
          refine ⟨.ref s.heap.objs.size, _, I.laid (t' := s.toks) (o := .tup (List.replicate k.toNat xs).flatten) (fun b ob q => Heap.get?_push_of_some _ q) (Nat.le_refl _) ?_, rfl, hq2⟩
          exact ⟨hz, _, r1.rep k.toNat, PyProof.Rows.IsTup.new _ _⟩
    · cases hz
  · -- text * int
    split at hz
    · rename_i a k q
      cases hz
      rw [Bool.and_eq_true] at q
      obtain ⟨h1, h2⟩ := idx62_of q.1
      have h3 := of_decide_eq_true q.2
      rw [hd.str] at rx; rw [he.int] at ry
      obtain ⟨t, rfl⟩ := rx
      obtain ⟨t2, rfl⟩ := ry
      have sl : sizeLine = 16777216 := sizeLine_eq
      have hq2 := post_str hq
      refine PySem.P.mul_str (by rw [decide_eq_false (by omega), decide_eq_false (by omega)]; rfl) (fun g1 g2 => ?_) (fun g1 g2 => ?_) ?_
      · have : (a.length : Int) * k ≤ 16777216 := by
          have e : (a.length : Int) * k = ((a.length * k.toNat : Nat) : Int) := by rw [Int.natCast_mul, Int.toNat_of_nonneg (by omega)]
          rw [e]; omega
        intro hh
        have hk : (0 : Int) < k := by omega
        have := (Int.lt_iff_add_one_le).mp hh
        have h6 : (2 ^ 63 - 1) / k * k + (2 ^ 63 - 1) % k = 2 ^ 63 - 1 := by
          have := Int.mul_ediv_add_emod (2 ^ 63 - 1) k
          rw [Int.mul_comm] at this
          exact this
        have h7 := Int.emod_lt_of_pos (2 ^ 63 - 1) hk
        have h8 : ((2 ^ 63 - 1) / k + 1) * k ≤ (a.length : Int) * k := Int.mul_le_mul_of_nonneg_right this (by omega)
        rw [Int.add_mul, Int.one_mul] at h8
        omega
      · unfold Builtin.Str.tooLong
        exact decide_eq_false (by omega)
      · have eS : (⟨(List.replicate k.toNat a.cps.toList).flatten.toArray⟩ : Str) = (if k < 1 then Str.empty else if (k == 1 || a.length == 0) = true then a else ⟨(List.replicate k.toNat a.cps).foldl (· ++ ·) #[]⟩) := by
          by_cases g : k < 1
          · rw [if_pos g]
            have e0 : k.toNat = 0 := by omega
            rw [e0]; rfl
          · rw [if_neg g]
            by_cases g2 : (k == 1 || a.length == 0) = true
            · rw [if_pos g2]
              rw [Bool.or_eq_true] at g2
              rcases g2 with g2 | g2
              · have : k = 1 := by simpa using g2
                subst this
                simp
              · have : a.cps.toList = [] := by
                  apply List.eq_nil_of_length_eq_zero
                  rw [← strLen]
                  simpa using g2
                rw [this]
                have e2 : a = ⟨#[]⟩ := by
                  cases a with
                  | mk c => simp at this; rw [this]
                rw [e2, PyProof.Rows.lm_rep_nil]
            · rw [if_neg g2, str_rep]; simp
        rw [eS] at hq2
        have hlen : ∀ x : Str, x = (⟨(List.replicate k.toNat a.cps.toList).flatten.toArray⟩ : Str) → x.length ≤ sizeLine := fun x e => by
          subst e
          rw [strLen]
          simp only [len_rep]
          rw [strLen] at h3
          simpa using h3
        have hlen2 := hlen _ eS.symm
        by_cases g : k < 1
        · rw [if_pos g] at hq2 hlen2 ⊢
          exact ⟨hlen2, .str _, H, I.tok _, ⟨_, rfl⟩, hq2⟩
        · rw [if_neg g] at hq2 hlen2 ⊢
          by_cases g2 : (k == 1 || a.length == 0) = true
          · rw [if_pos g2] at hq2 hlen2 ⊢
            exact ⟨.str _, H, I, ⟨_, rfl⟩, hq2⟩
          · rw [if_neg g2] at hq2 hlen2 ⊢
            exact ⟨hlen2, .str _, H, I.tok _, ⟨_, rfl⟩, hq2⟩
    · cases hz
  · split at hz
    · rename_i q
      cases hz
      rw [Bool.and_eq_true] at q
      rw [hd.int] at rx; rw [he.int] at ry
      exact op_fdiv pins s σ H _ _ v u Q I rx ry ⟨_, _, rfl, rfl, ⟨of_decide_eq_true q.1, of_decide_eq_true q.2⟩, post_int hq⟩
    · cases hz
  · split at hz
    · rename_i q
      cases hz
      rw [hd.int] at rx; rw [he.int] at ry
      exact op_mod pins s σ H _ _ v u Q I rx ry ⟨_, _, rfl, rfl, of_decide_eq_true q, post_int hq⟩
    · cases hz
  · split at hz
    · rename_i q
      cases hz
      rw [Bool.and_eq_true, Bool.and_eq_true] at q
      rw [hd.int] at rx; rw [he.int] at ry
      exact op_pow pins s σ H _ _ v u Q I rx ry ⟨_, _, rfl, rfl, ⟨of_decide_eq_true q.1.1, of_decide_eq_true q.1.2, of_decide_eq_true q.2⟩, post_int hq⟩
    · cases hz
  · split at hz
    · rename_i q
      cases hz
      rw [Bool.and_eq_true, Bool.and_eq_true] at q
      rw [hd.int] at rx; rw [he.int] at ry
      exact op_shl pins s σ H _ _ v u Q I rx ry ⟨_, _, rfl, rfl, ⟨of_decide_eq_true q.1.1, of_decide_eq_true q.1.2, of_decide_eq_true q.2⟩, post_int hq⟩
    · cases hz
  · split at hz
    · rename_i q
      cases hz
      rw [hd.int] at rx; rw [he.int] at ry
      exact op_shr pins s σ H _ _ v u Q I rx ry ⟨_, _, rfl, rfl, of_decide_eq_true q, post_int hq⟩
    · cases hz
  · cases hz
    rw [hd.int] at rx; rw [he.int] at ry
    exact op_and pins s σ H _ _ v u Q I rx ry ⟨_, _, rfl, rfl, post_int hq⟩
  · cases hz
    rw [hd.int] at rx; rw [he.int] at ry
    exact op_or pins s σ H _ _ v u Q I rx ry ⟨_, _, rfl, rfl, post_int hq⟩
  · cases hz
    rw [hd.int] at rx; rw [he.int] at ry
    exact op_xor pins s σ H _ _ v u Q I rx ry ⟨_, _, rfl, rfl, post_int hq⟩
  · cases hz
end
end Pv

set_option maxRecDepth 100000
/-! Pv.Cmp: comparisons by values. -/
namespace Pv
open PySem PySem.Spec L2

mutual
theorem toP_plain : ∀ d : D, d.toP.plain = true
  | .non => rfl
  | .bl _ => rfl
  | .int _ => rfl
  | .str _ => rfl
  | .tup ds => by simp only [D.toP, PyData.plain]; exact toPs_plain ds
  | .lst ds => by simp only [D.toP, PyData.plain]; exact toPs_plain ds
  | .dict _ => rfl
  | .ref _ => rfl
theorem toPs_plain : ∀ ds : List D, PyData.plainAll (D.toPs ds) = true
  | [] => rfl
  | d :: ds => by simp only [D.toPs, PyData.plainAll, Bool.and_eq_true]; exact ⟨toP_plain d, toPs_plain ds⟩
end
mutual
theorem toP_dep : ∀ d : D, d.toP.depth = d.dep
  | .non => rfl
  | .bl _ => rfl
  | .int _ => rfl
  | .str _ => rfl
  | .tup ds => by simp only [D.toP, PyData.depth, D.dep, toPs_dep ds]
  | .lst ds => by simp only [D.toP, PyData.depth, D.dep, toPs_dep ds]
  | .dict _ => rfl
  | .ref _ => rfl
theorem toPs_dep : ∀ ds : List D, PyData.depthAll (D.toPs ds) = D.depL ds
  | [] => rfl
  | d :: ds => by simp only [D.toPs, PyData.depthAll, D.depL, toP_dep d, toPs_dep ds]
end
mutual
theorem toP_eqv : ∀ x y : D, x.pl = true → y.pl = true → PyData.eqv x.toP y.toP = D.eqv x y
  | .non, y, _, h => by cases y <;> first | (simp [D.toP, PyData.eqv, D.eqv]; done) | simp [D.pl] at h
  | .bl _, y, _, h => by cases y <;> first | (simp [D.toP, PyData.eqv, D.eqv]; done) | simp [D.pl] at h
  | .int _, y, _, h => by cases y <;> first | (simp [D.toP, PyData.eqv, D.eqv]; done) | simp [D.pl] at h
  | .str _, y, _, h => by cases y <;> first | (simp [D.toP, PyData.eqv, D.eqv]; done) | simp [D.pl] at h
  | .tup xs, y, hx, h => by
    cases y with
    | tup ys =>
      simp only [D.pl] at hx h
      simp only [D.toP, PyData.eqv, D.eqv]
      exact toPs_eqv xs ys hx h
    | non => simp [D.toP, PyData.eqv, D.eqv]
    | bl _ => simp [D.toP, PyData.eqv, D.eqv]
    | int _ => simp [D.toP, PyData.eqv, D.eqv]
    | str _ => simp [D.toP, PyData.eqv, D.eqv]
    | lst _ => simp [D.toP, PyData.eqv, D.eqv]
    | dict _ => simp [D.pl] at h
    | ref _ => simp [D.pl] at h
  | .lst xs, y, hx, h => by
    cases y with
    | lst ys =>
      simp only [D.pl] at hx h
      simp only [D.toP, PyData.eqv, D.eqv]
      exact toPs_eqv xs ys hx h
    | non => simp [D.toP, PyData.eqv, D.eqv]
    | bl _ => simp [D.toP, PyData.eqv, D.eqv]
    | int _ => simp [D.toP, PyData.eqv, D.eqv]
    | str _ => simp [D.toP, PyData.eqv, D.eqv]
    | tup _ => simp [D.toP, PyData.eqv, D.eqv]
    | dict _ => simp [D.pl] at h
    | ref _ => simp [D.pl] at h
  | .dict _, _, h, _ => by simp [D.pl] at h
  | .ref _, _, h, _ => by simp [D.pl] at h
theorem toPs_eqv : ∀ xs ys : List D, D.plL xs = true → D.plL ys = true → PyData.eqvAll (D.toPs xs) (D.toPs ys) = D.eqvL xs ys
  | [], [], _, _ => rfl
  | [], _ :: _, _, _ => rfl
  | _ :: _, [], _, _ => rfl
  | x :: xs, y :: ys, h, h' => by
    simp only [D.plL, Bool.and_eq_true] at h h'
    simp only [D.toPs, PyData.eqvAll, D.eqvL, toP_eqv x y h.1 h'.1, toPs_eqv xs ys h.2 h'.2]
end
mutual
theorem toP_ali : ∀ x y : D, x.ali y = true → PySem.W.alike x.toP y.toP = true
  | .non, y, h => by cases y <;> first | (simp [D.ali] at h; done) | simp [D.toP, PySem.W.alike]
  | .bl _, y, h => by cases y <;> first | (simp [D.ali] at h; done) | simp [D.toP, PySem.W.alike]
  | .int _, y, h => by cases y <;> first | (simp [D.ali] at h; done) | simp [D.toP, PySem.W.alike]
  | .str _, y, h => by cases y <;> first | (simp [D.ali] at h; done) | simp [D.toP, PySem.W.alike]
  | .tup xs, y, h => by
    cases y with
    | tup ys =>
      simp only [D.ali] at h
      simp only [D.toP, PySem.W.alike]
      exact toPs_ali xs ys h
    | _ => simp [D.ali] at h
  | .lst xs, y, h => by
    cases y with
    | lst ys =>
      simp only [D.ali] at h
      simp only [D.toP, PySem.W.alike]
      exact toPs_ali xs ys h
    | _ => simp [D.ali] at h
  | .dict _, y, h => by simp [D.ali] at h
  | .ref _, y, h => by simp [D.ali] at h
theorem toPs_ali : ∀ xs ys : List D, D.aliL xs ys = true → PySem.W.alikeAll (D.toPs xs) (D.toPs ys) = true
  | [], _, _ => by simp [D.toPs, PySem.W.alikeAll]
  | _ :: _, [], _ => by simp [D.toPs, PySem.W.alikeAll]
  | x :: xs, y :: ys, h => by
    simp only [D.aliL, Bool.and_eq_true] at h
    simp only [D.toPs, PySem.W.alikeAll, Bool.and_eq_true]
    exact ⟨toP_ali x y h.1, toPs_ali xs ys h.2⟩
end
theorem toPs_map : ∀ ds : List D, D.toPs ds = ds.map D.toP
  | [] => rfl
  | d :: ds => by simp only [D.toPs, List.map_cons, toPs_map ds]
theorem shp_pl {d : D} (h : d.shp = true) : d.pl = true := by
  unfold D.shp at h
  rw [Bool.and_eq_true] at h
  exact h.1
theorem shp_dep {d : D} (h : d.shp = true) : d.dep ≤ 60 := by
  unfold D.shp at h
  rw [Bool.and_eq_true] at h
  exact of_decide_eq_true h.2

def rCmp (K : PySem.W.Frag) (op : CmpOp) : R2 := fun x y H Q => ∃ c d e b, (∀ a o, c.F a = some o → H a = some o) ∧ View K c H d x ∧ View K c H e y ∧ cmpD op d e = some b ∧ Q (.bl b) H
section
variable {X : Cx} {pins : List (Addr × Obj)} {σ : St} {H : Hp} {s : Shared} {c : Gh} {d e : D} {x y : V} {u v : Value}
theorem View.reads (I : L2.Inv X pins σ H s) (hF : ∀ a o, c.F a = some o → H a = some o) (h : View X.K c H d x) (hp : d.pl = true) (r : RelV x u) : ∃ as, Reads s.heap u d.toP as :=
  Dp.reads I d.toP x u (h.dp hF hp) r
theorem eqD_some {b : Bool} (h : eqD d e = some b) : d.shp = true ∧ e.shp = true ∧ b = d.eqv e := by
  unfold eqD at h
  split at h
  · rename_i q
    rw [Bool.and_eq_true] at q
    cases h
    exact ⟨q.1, q.2, rfl⟩
  · cases h
theorem ordD_some {b : Bool} (h : ordD d e = some b) : (∃ i j, d = .int i ∧ e = .int j ∧ b = decide (i < j)) ∨ (d.ali e = true ∧ d.shp = true ∧ e.shp = true ∧ d ≠ .non ∧ b = d.lt e) := by
  unfold ordD at h
  split at h
  · cases h; exact .inl ⟨_, _, rfl, rfl, rfl⟩
  · split at h
    · rename_i q
      rw [Bool.and_eq_true, Bool.and_eq_true] at q
      split at h
      · cases h
      · rename_i hn
        cases h
        exact .inr ⟨q.1.1, q.1.2, q.2, hn, rfl⟩
    · cases h
theorem toP_ne_none {d : D} (h : d.pl = true) (hn : d ≠ .non) : d.toP ≠ .none := by
  cases d with
  | non => exact absurd rfl hn
  | bl _ => intro q; cases q
  | int _ => intro q; cases q
  | str _ => intro q; cases q
  | tup _ => intro q; simp [D.toP] at q
  | lst _ => intro q; simp [D.toP] at q
  | dict _ => simp [D.pl] at h
  | ref _ => simp [D.pl] at h
theorem ali_ne_non (h : d.ali e = true) (hn : d ≠ .non) : e ≠ .non := by
  intro q
  subst q
  cases d with
  | non => exact hn rfl
  | _ => simp [D.ali] at h
theorem isD_non {b : Bool} (r : View X.K c H d x) (h : isD d .non = some b) : b = decide (x = .non) := by
  cases d with
  | non => cases h; rw [r.non]; rfl
  | bl _ => cases h; rw [r.bl]; rfl
  | int _ => cases h; rw [r.int]; rfl
  | str _ => cases h; rw [r.str]; rfl
  | tup ds =>
    cases h
    have := r.rp (fun ds => by intro e; cases e)
    simp only [Rp] at this
    obtain ⟨a, xs, rfl, _⟩ := this
    rfl
  | lst ds =>
    cases h
    rcases r with r | ⟨a, rfl, _⟩
    · simp only [Rp] at r
      obtain ⟨a, xs, rfl, _⟩ := r
      rfl
    · rfl
  | dict _ => cases h
  | ref _ => cases h
theorem inD_some {b : Bool} (h : inD d e = some b) : (∃ ds, (e = .lst ds ∨ e = .tup ds) ∧ d.shp = true ∧ D.plL ds = true ∧ D.depL ds ≤ 60 ∧ b = ds.any fun z => z.eqv d) ∨
    (∃ i j, d = .str i ∧ e = .str j ∧ b = !(Builtin.Str.occurrences j i 0 j.length 1).isEmpty) ∨
    (∃ t kvs, e = dct t kvs ∧ keyFit t d = true ∧ b = (dLook kvs d).isSome) := by
  have go : ∀ ds, inL d ds = some b → d.shp = true ∧ D.plL ds = true ∧ D.depL ds ≤ 60 ∧ b = ds.any fun z => z.eqv d := fun ds h => by
    unfold inL at h
    split at h
    · rename_i q
      rw [Bool.and_eq_true, Bool.and_eq_true] at q
      cases h
      exact ⟨q.1.1, q.1.2, of_decide_eq_true q.2, rfl⟩
    · cases h
  unfold inD at h
  split at h
  · split at h
    · rename_i hk
      cases h
      exact .inr (.inr ⟨_, _, rfl, hk, rfl⟩)
    · cases h
  · exact .inl ⟨_, .inl rfl, go _ h⟩
  · exact .inl ⟨_, .inr rfl, go _ h⟩
  · cases h; exact .inr (.inl ⟨_, _, rfl, rfl, rfl⟩)
  · cases h
theorem fit_rp {t : Bool} (hk : keyFit t d = true) (h : View X.K c H d x) : Rp X.K c d x := by
  refine h.rp (fun ds e => ?_) (fun kvs e => ?_)
  · subst e; cases t <;> cases hk
  · subst e; cases t <;> cases hk
theorem dct_own {t : Bool} {kvs : List (D × D)} (h : View X.K c H (dct t kvs) x) : ∃ a, x = .ref a ∧ OwnIs X.K c H a (dct t kvs) := by
  rcases h with h | h
  · simp only [Rp] at h
  · exact h
theorem any_toPs (d : D) (hd : d.pl = true) : ∀ ds : List D, D.plL ds = true → (D.toPs ds).any (fun y => PyData.eqv y d.toP) = ds.any fun z => z.eqv d
  | [], _ => rfl
  | x :: xs, h => by
    simp only [D.plL, Bool.and_eq_true] at h
    simp only [D.toPs, List.any_cons, toP_eqv x d h.1 hd, any_toPs d hd xs h.2]
theorem op_cmp (hu : X.A.units + 64 < cLine) (op : CmpOp) : OpR X (compareOp op) (rCmp X.K op) := by
  intro pins s σ H x y v u Q I rx ry ⟨c, d, e, b, hF, hd, he, hz, hq⟩
  have fin : ∀ k, b = k → EP X pins σ Q (.bool k) s := fun k e => ⟨.bl b, H, I, by rw [e]; rfl, hq⟩
  have mn : ∀ {a b : D}, a.shp = true → X.A.units + min a.toP.depth b.toP.depth < cLine := fun {a b} h => by
    rw [toP_dep, toP_dep]
    have := shp_dep h
    have := Nat.min_le_left a.dep b.dep
    omega
  cases op with
  | Eq =>
    obtain ⟨s1, s2, rfl⟩ := eqD_some hz
    obtain ⟨as, r1⟩ := hd.reads I hF (shp_pl s1) rx
    obtain ⟨bs, r2⟩ := he.reads I hF (shp_pl s2) ry
    exact SeqAt.eq_plain r1 r2 (toP_plain d) (toP_plain e) (mn s1) (fin _ (toP_eqv d e (shp_pl s1) (shp_pl s2)).symm)
  | NotEq =>
    have hz' : (eqD d e).map (!·) = some b := hz
    cases q : eqD d e with
    | none => rw [q] at hz'; cases hz'
    | some k =>
      rw [q] at hz'
      have : b = !k := by simpa using hz'.symm
      obtain ⟨s1, s2, rfl⟩ := eqD_some q
      obtain ⟨as, r1⟩ := hd.reads I hF (shp_pl s1) rx
      obtain ⟨bs, r2⟩ := he.reads I hF (shp_pl s2) ry
      exact SeqAt.ne_plain r1 r2 (toP_plain d) (toP_plain e) (mn s1) (fin _ (by rw [toP_eqv d e (shp_pl s1) (shp_pl s2)]; exact this))
  | Lt =>
    rcases ordD_some hz with ⟨i, j, rfl, rfl, rfl⟩ | ⟨h1, s1, s2, hn, rfl⟩
    · rw [hd.int] at rx; rw [he.int] at ry
      exact op_lt pins s σ H _ _ v u Q I rx ry ⟨_, _, rfl, rfl, hq⟩
    · obtain ⟨as, r1⟩ := hd.reads I hF (shp_pl s1) rx
      obtain ⟨bs, r2⟩ := he.reads I hF (shp_pl s2) ry
      exact PySem.W.lt_data r1 r2 (toP_ali _ _ h1) (toP_ne_none (shp_pl s1) hn) (mn s1) (fin _ rfl)
  | LtE =>
    have hz' : (ordD e d).map (!·) = some b := hz
    cases q : ordD e d with
    | none => rw [q] at hz'; cases hz'
    | some k =>
      rw [q] at hz'
      have hb : b = !k := by simpa using hz'.symm
      rcases ordD_some q with ⟨i, j, rfl, rfl, rfl⟩ | ⟨h1, s1, s2, hn, rfl⟩
      · rw [hd.int] at rx; rw [he.int] at ry
        refine op_le pins s σ H _ _ v u Q I rx ry ⟨_, _, rfl, rfl, ?_⟩
        have : decide (j ≤ i) = b := by
          rw [hb, Bool.eq_iff_iff]
          simp only [decide_eq_true_eq, Bool.not_eq_true', decide_eq_false_iff_not]
          omega
        show Q (.bl (decide (j ≤ i))) H
        rw [this]; exact hq
      · obtain ⟨as, r1⟩ := hd.reads I hF (shp_pl s2) rx
        obtain ⟨bs, r2⟩ := he.reads I hF (shp_pl s1) ry
        refine PySem.W.le_data r1 r2 ?_ (toP_ne_none (shp_pl s2) (ali_ne_non h1 hn)) (mn s2) (fin _ hb)
        rw [PySem.W.alike_comm]
        exact toP_ali _ _ h1
  | Gt =>
    rcases ordD_some hz with ⟨i, j, rfl, rfl, rfl⟩ | ⟨h1, s1, s2, hn, rfl⟩
    · rw [hd.int] at rx; rw [he.int] at ry
      exact op_gt pins s σ H _ _ v u Q I rx ry ⟨_, _, rfl, rfl, hq⟩
    · obtain ⟨as, r1⟩ := hd.reads I hF (shp_pl s2) rx
      obtain ⟨bs, r2⟩ := he.reads I hF (shp_pl s1) ry
      refine PySem.W.gt_data r1 r2 ?_ (toP_ne_none (shp_pl s2) (ali_ne_non h1 hn)) (mn s2) (fin _ rfl)
      rw [PySem.W.alike_comm]
      exact toP_ali _ _ h1
  | GtE =>
    have hz' : (ordD d e).map (!·) = some b := hz
    cases q : ordD d e with
    | none => rw [q] at hz'; cases hz'
    | some k =>
      rw [q] at hz'
      have hb : b = !k := by simpa using hz'.symm
      rcases ordD_some q with ⟨i, j, rfl, rfl, rfl⟩ | ⟨h1, s1, s2, hn, rfl⟩
      · rw [hd.int] at rx; rw [he.int] at ry
        refine op_ge pins s σ H _ _ v u Q I rx ry ⟨_, _, rfl, rfl, ?_⟩
        have : decide (j ≤ i) = b := by
          rw [hb, Bool.eq_iff_iff]
          simp only [decide_eq_true_eq, Bool.not_eq_true', decide_eq_false_iff_not]
          omega
        show Q (.bl (decide (j ≤ i))) H
        rw [this]; exact hq
      · obtain ⟨as, r1⟩ := hd.reads I hF (shp_pl s1) rx
        obtain ⟨bs, r2⟩ := he.reads I hF (shp_pl s2) ry
        exact PySem.W.ge_data r1 r2 (toP_ali _ _ h1) (toP_ne_none (shp_pl s1) hn) (mn s1) (fin _ hb)
  | Is =>
    by_cases hn : e = .non
    · subst hn
      have := isD_non hd hz
      refine op_isN pins s σ H _ _ v u Q I rx ry ⟨he.non, ?_⟩
      rw [← this]; exact hq
    · have hz' : isD d e = some b := hz
      unfold isD at hz'
      split at hz' <;> first | (exact absurd rfl hn) | skip
      · cases hz'
        rw [hd.bl] at rx; rw [he.bl] at ry
        exact op_is_bl pins s σ H _ _ v u Q I rx ry ⟨_, _, rfl, rfl, hq⟩
      · cases hz'
  | IsNot =>
    have hz' : (isD d e).map (!·) = some b := hz
    cases q : isD d e with
    | none => rw [q] at hz'; cases hz'
    | some k =>
      rw [q] at hz'
      have hb : b = !k := by simpa using hz'.symm
      by_cases hn : e = .non
      · subst hn
        have := isD_non hd q
        refine op_notN pins s σ H _ _ v u Q I rx ry ⟨he.non, ?_⟩
        rw [← this, ← hb]; exact hq
      · unfold isD at q
        split at q <;> first | (exact absurd rfl hn) | skip
        · cases q
          rw [hd.bl] at rx; rw [he.bl] at ry
          refine op_isnot_bl pins s σ H _ _ v u Q I rx ry ⟨_, _, rfl, rfl, ?_⟩
          rw [← hb]; exact hq
        · cases q
  | In =>
    rcases inD_some hz with ⟨ds, hh, s1, p2, d2, rfl⟩ | ⟨i, j, rfl, rfl, rfl⟩ | ⟨t, kvs, rfl, hk, rfl⟩
    · obtain ⟨as, r1⟩ := hd.reads I hF (shp_pl s1) rx
      have hlt : X.A.units + 1 + min (PyData.depthAll (D.toPs ds)) d.toP.depth < cLine := by
        rw [toPs_dep]
        have := Nat.min_le_left (D.depL ds) d.toP.depth
        omega
      rcases hh with rfl | rfl
      · obtain ⟨bs, r2⟩ := he.reads I hF (d := .lst ds) (by simp only [D.pl]; exact p2) ry
        simp only [D.toP] at r2
        exact SeqAt.in_list_data r2 r1 (toPs_plain ds) (toP_plain d) hlt (fin _ (any_toPs d (shp_pl s1) ds p2).symm)
      · obtain ⟨bs, r2⟩ := he.reads I hF (d := .tup ds) (by simp only [D.pl]; exact p2) ry
        simp only [D.toP] at r2
        exact SeqAt.in_tuple_data r2 r1 (toPs_plain ds) (toP_plain d) hlt (fin _ (any_toPs d (shp_pl s1) ds p2).symm)
    · rw [hd.str] at rx; rw [he.str] at ry
      exact op_in_str pins s σ H _ _ v u Q I rx ry ⟨_, _, rfl, rfl, hq⟩
    · obtain ⟨a, rfl, ho⟩ := dct_own he
      cases ry
      exact own_in hu I hF ho hk (fit_rp hk hd) rx fun s' I' => ⟨.bl _, H, I', rfl, hq⟩
  | NotIn =>
    have hz' : (inD d e).map (!·) = some b := hz
    cases q : inD d e with
    | none => rw [q] at hz'; cases hz'
    | some k =>
      rw [q] at hz'
      have hb : b = !k := by simpa using hz'.symm
      rcases inD_some q with ⟨ds, hh, s1, p2, d2, rfl⟩ | ⟨i, j, rfl, rfl, rfl⟩ | ⟨t, kvs, rfl, hk, rfl⟩
      · obtain ⟨as, r1⟩ := hd.reads I hF (shp_pl s1) rx
        have hlt : X.A.units + 1 + min (PyData.depthAll (D.toPs ds)) d.toP.depth < cLine := by
          rw [toPs_dep]
          have := Nat.min_le_left (D.depL ds) d.toP.depth
          omega
        rcases hh with rfl | rfl
        · obtain ⟨bs, r2⟩ := he.reads I hF (d := .lst ds) (by simp only [D.pl]; exact p2) ry
          simp only [D.toP] at r2
          exact SeqAt.notIn_list_data r2 r1 (toPs_plain ds) (toP_plain d) hlt (fin _ (by rw [any_toPs d (shp_pl s1) ds p2]; exact hb))
        · obtain ⟨bs, r2⟩ := he.reads I hF (d := .tup ds) (by simp only [D.pl]; exact p2) ry
          simp only [D.toP] at r2
          exact SeqAt.notIn_tuple_data r2 r1 (toPs_plain ds) (toP_plain d) hlt (fin _ (by rw [any_toPs d (shp_pl s1) ds p2]; exact hb))
      · rw [hd.str] at rx; rw [he.str] at ry
        refine op_notin_str pins s σ H _ _ v u Q I rx ry ⟨_, _, rfl, rfl, ?_⟩
        rw [← hb]; exact hq
      · obtain ⟨a, rfl, ho⟩ := dct_own he
        cases ry
        exact own_notIn hu I hF ho hk (fit_rp hk hd) rx fun s' I' => ⟨.bl _, H, I', rfl, by rw [← hb]; exact hq⟩
end
end Pv

set_option maxRecDepth 100000
/-! Pv.Idx: subscripts, slices, [::-1] by values. -/
namespace Pv
open PySem PySem.Spec L2

theorem atI_rel {K : PySem.W.Frag} {c : Gh} {ds : List D} {xs : List V} {i : Int} {d : D} (r : RpL K c ds xs) (h : atD ds i = some d) : ∃ v, atI xs i = some v ∧ Rp K c d v := by
  unfold atD at h
  unfold atI at h ⊢
  rw [r.length] at h
  cases e : ixN xs.length i with
  | none => rw [e] at h; cases h
  | some j =>
    rw [e] at h
    obtain ⟨v, h1, h2⟩ := r.get (i := j) h
    exact ⟨v, h1, h2⟩
section
variable {prog : Program} {w : World} {A : Around} {E : Value → Shared → Prop} {s : Shared}
theorem idx_bool : typeLookup (.type "bool") (Str.ofString "__index__") = pure (some (.builtin "int.__index__")) := by rw [typeLookup_type, builtinLookup_eq_fast]; kernel_rfl
theorem getTupBool {l : Addr} {items : Array Value} {b : Bool} {k : Nat} {y : Value} {Q : Value → Shared → Prop} (ht : PyProof.Rows.IsTup s.heap l items) (hk : seqIndex? (if b then 1 else 0) items.size = some k) (hy : items[k]? = some y) (h : Q y s) :
    wpAny (model prog w) A (getItem (.ref l) (.bool b)) Q E s := by
  unfold getItem
  first | with_reducible refine wpAny_holding ?_ | skip
  first | refine wpAny_bind (wpAny_pure ?_) | skip
  refine wpAny_bind (wpAny_sequenceKey ht.typeIs (by decide) ?_)
  refine wpAny_bind (wpAny_callSpecial?_slot (name := Str.ofString "__getitem__") ht.typeIs PyProof.Rows.slot_tuple_getitem
    (wpAny_call_entry PyProof.Rows.slot_tuple_getitem ht.typeIs PyProof.Rows.entry_tuple_getitem ?_ (PyProof.Rows.args_tuple_getitem _ _)))
  show wpAny _ _ (Builtin.Tuple.tupleItemsOf (.ref l) >>= _) _ _ s
  refine wpAny_bind (PyProof.Rows.tupleItemsOf_ ht ?_)
  refine wpAny_bind (wpAny_typeOf (typeIs_bool s b) ?_)
  rw [if_neg (by decide)]
  refine wpAny_bind (wpAny_specialOf (T := "bool") (typeIs_bool s b) idx_bool ?_)
  rw [if_neg (by simp)]
  refine wpAny_bind (wpAny_of_eq (a := (if b then 1 else 0 : Int)) rfl ?_)
  rw [if_neg (by cases b <;> decide)]
  simp only [hk, Option.bind_some, hy]
  exact wpAny_pure ⟨_, rfl, wpAny_pure h⟩
theorem places_rev (n : Nat) : Builtin.Slice.slicePlaces ((n : Int) - 1) (-1) (-1) = n := by
  unfold Builtin.Slice.slicePlaces
  rw [if_neg (by decide)]
  by_cases h0 : (n : Int) - 1 > -1
  · rw [if_pos h0]
    have : ((n : Int) - 1 - -1 - 1) / (- -1) + 1 = n := by
      rw [show (- -1 : Int) = 1 by decide, Int.ediv_one]
      omega
    rw [this]; simp
  · rw [if_neg h0]
    omega
theorem pick_rev {α : Type} (xs : Array α) : ∀ n : Nat, n ≤ xs.size → ((List.range n).filterMap fun (m : Nat) => xs[(((n : Nat) : Int) - 1 + (m : Int) * -1).toNat]?) = (xs.toList.take n).reverse
  | 0, _ => by simp
  | n + 1, h => by
    rw [List.range_succ_eq_map, List.filterMap_cons]
    have e0 : (((n + 1 : Nat) : Int) - 1 + ((0 : Nat) : Int) * -1).toNat = n := by omega
    rw [e0]
    have hx : xs[n]? = some (xs[n]'(by omega)) := Array.getElem?_eq_getElem (by omega)
    rw [hx]
    simp only [List.filterMap_map]
    have hc : ((fun (m : Nat) => xs[(((n + 1 : Nat) : Int) - 1 + (m : Int) * -1).toNat]?) ∘ Nat.succ) = fun (m : Nat) => xs[(((n : Nat) : Int) - 1 + (m : Int) * -1).toNat]? := by
      funext m
      show xs[(((n + 1 : Nat) : Int) - 1 + ((m + 1 : Nat) : Int) * -1).toNat]? = _
      congr 2
      omega
    rw [hc, pick_rev xs n (by omega), List.take_succ, List.reverse_append]
    simp [hx]
theorem sliceRev {sl : Addr} {vl vu vs : Value} {n : Nat} {Q : Int × Int × Nat → Shared → Prop} (hs : s.heap.IsSliceOf sl vl vu vs) (pl : IsPart vl none) (pu : IsPart vu none) (ps : IsPart vs (some (-1)))
    (h : Q ((n : Int) - 1, -1, n) s) : wpAny (model prog w) A (Builtin.Slice.sliceApplied (.ref sl) (pure (n : Int))) Q E s := by
  obtain ⟨os, hos, hcs, hds⟩ := id hs
  unfold Builtin.Slice.sliceApplied Builtin.Slice.sliceFields
  refine wpAny_bind (wpAny_bind (wpAny_field hos hds (x := vl) rfl (wpAny_bind (wpAny_field hos hds (x := vu) rfl (wpAny_bind (wpAny_field hos hds (x := vs) rfl (wpAny_pure ?_)))))))
  refine wpAny_bind (HT.slicePart_ ps ?_)
  show wpAny _ _ (if ((-1 : Int) == 0) = true then _ else _) _ _ s
  rw [if_neg (by decide)]
  refine wpAny_bind (HT.slicePart_ pl (wpAny_bind (HT.slicePart_ pu (wpAny_bind (wpAny_pure ?_)))))
  show wpAny _ _ (pure ((n : Int) - 1, (-1 : Int), Builtin.Slice.slicePlaces ((n : Int) - 1) (-1) (-1))) _ _ s
  rw [places_rev]
  exact wpAny_pure h
theorem getTupRev {l sl : Addr} {items : Array Value} {vl vu vs : Value} {Q : Value → Shared → Prop} (ht : PyProof.Rows.IsTup s.heap l items) (hs : s.heap.IsSliceOf sl vl vu vs) (pl : IsPart vl none) (pu : IsPart vu none) (ps : IsPart vs (some (-1)))
    (h : Q (.ref s.heap.objs.size) { s with heap := s.heap.push { cls := .type "tuple", data := .seq items.toList.reverse.toArray } }) (hz : items.size ≤ sizeLine) : wpAny (model prog w) A (getItem (.ref l) (.ref sl)) Q E s := by
  obtain ⟨os, hos, hcs, hds⟩ := id hs
  unfold getItem
  first | with_reducible refine wpAny_holding ?_ | skip
  first | refine wpAny_bind (wpAny_pure ?_) | skip
  refine wpAny_bind (wpAny_sequenceKey ht.typeIs (by decide) ?_)
  refine wpAny_bind (wpAny_callSpecial?_slot (name := Str.ofString "__getitem__") ht.typeIs PyProof.Rows.slot_tuple_getitem
    (wpAny_call_entry PyProof.Rows.slot_tuple_getitem ht.typeIs PyProof.Rows.entry_tuple_getitem ?_ (PyProof.Rows.args_tuple_getitem _ _)))
  show wpAny _ _ (Builtin.Tuple.tupleItemsOf (.ref l) >>= _) _ _ s
  refine wpAny_bind (PyProof.Rows.tupleItemsOf_ ht ?_)
  refine wpAny_bind (wpAny_typeOf (show s.TypeIs (.ref sl) "slice" from ⟨os, hos, hcs⟩) ?_)
  rw [if_pos (by decide)]
  refine wpAny_bind (sliceRev hs pl pu ps ?_)
  have hno : ¬ ((((items.size : Nat) : Int) - 1 == 0 && (-1 : Int) == 1 && items.size == items.size) = true) := by
    intro q
    rw [Bool.and_eq_true, Bool.and_eq_true] at q
    have q1 : (-1 : Int) = 1 := eq_of_beq q.1.2
    omega
  show wpAny _ _ (if (((items.size : Nat) : Int) - 1 == 0 && (-1 : Int) == 1 && items.size == items.size) = true then _ else _) _ _ s
  rw [if_neg hno, pick_rev _ _ (Nat.le_refl _), ← Array.length_toList, List.take_length]
  have hk : sizeOk (.seq items.toList.reverse.toArray) := by
    show items.toList.reverse.toArray.size ≤ sizeLine
    rw [List.size_toArray, List.length_reverse, Array.length_toList]
    exact hz
  exact wpAny_bind (m := Builtin.Tuple.tupleExact _) (wpAny_newObj_type (wpAny_pure ⟨_, rfl, wpAny_pure h⟩) hk)
theorem getStrRev {sl : Addr} {x : Str} {t : Tok} {vl vu vs : Value} {Q : Value → Shared → Prop} (hs : s.heap.IsSliceOf sl vl vu vs) (pl : IsPart vl none) (pu : IsPart vu none) (ps : IsPart vs (some (-1))) (hz : x.length ≤ sizeLine)
    (h : Q (.str ⟨x.cps.toList.reverse.toArray⟩ s.toks) { s with toks := s.toks + 1 }) : wpAny (model prog w) A (getItem (.str x t) (.ref sl)) Q E s := by
  obtain ⟨l1, rfl, e1⟩ := IsPart.raw pl
  obtain ⟨l2, rfl, e2⟩ := IsPart.raw pu
  obtain ⟨l3, rfl, e3⟩ := IsPart.raw ps
  cases l1 with
  | some p => cases e1
  | none =>
    cases l2 with
    | some p => cases e2
    | none =>
      cases l3 with
      | none => cases e3
      | some p =>
        obtain ⟨i, t3⟩ := p
        have : i = -1 := Option.some.inj e3
        subst this
        obtain ⟨os, hos, hcs, hds⟩ := hs
        refine wpAny_getItem_str_slice (l := none) (u := none) (st := some (-1, t3)) ⟨os, hos, hcs, hds⟩ rfl ?_
        have ex : (PySem.Txt.sliceBy x none none (-1, t3)) = ⟨x.cps.toList.reverse.toArray⟩ := by
          have h1 := PyProof.Rows.step_rev_list x t3
          have h2 : (List.range x.length).map (fun k => x.cps.getD (x.length - 1 - k) 0) = x.cps.toList.reverse := by
            apply List.ext_getElem
            · simp [Str.length]
            · intro i h3 h4
              have h5 : x.cps.size - 1 - i < x.cps.size := by simp at h4; omega
              simp [Str.length, Array.getD, h5]
          rw [h2] at h1
          cases hx : PySem.Txt.sliceBy x none none (-1, t3) with
          | mk cps =>
            rw [hx] at h1
            simp only at h1
            congr 1
            apply Array.toList_inj.mp
            rw [h1]
        unfold PySem.Txt.sliceBy at ex
        unfold sliceMade
        have hno : ¬ ((((some ((-1 : Int), t3)).map (·.1)).getD 1 == 1 && (slicePicked x none none (some (-1, t3))).length == x.length) = true) := by
          have : ((((some ((-1 : Int), t3)).map (·.1)).getD 1 == 1)) = false := rfl
          rw [this]; simp
        rw [if_neg hno] at ex ⊢
        have ex2 : (⟨((slicePicked x none none (some (-1, t3))).filterMap (x.cps[·]?)).toArray⟩ : Str) = ⟨x.cps.toList.reverse.toArray⟩ := ex
        rw [ex2]
        exact ⟨by rw [strLen]; simpa [strLen] using hz, h⟩
end

/-! ### by readings -/
def rIdx (K : PySem.W.Frag) : R2 := fun x y H Q => ∃ c st σ d k z, Abs K c st σ H ∧ View K c H d x ∧ View K c H k y ∧ idxD st.sh d k = some z ∧ ∀ w, Rp K c z w → Q w H
section
variable {X : Cx}
theorem ix_all (hu : X.A.units + 64 < cLine) : IxR X (rIdx X.K) := by
  intro value slice pins s σ H x y v u Q I rx ry ⟨c, st, σ2, d, k, z, A, hd, hk, hz, hq⟩ hs
  unfold idxD at hz
  split at hz
  · obtain ⟨a, xs, rfl, q, r⟩ := hd.lst A.fH
    obtain ⟨v2, e, r2⟩ := atI_rel r hz
    exact ix_list value slice pins s σ H _ _ v u Q I rx ry ⟨a, xs, _, v2, rfl, hk.int, q, e, hq _ r2⟩ hs
  · obtain ⟨a, xs, rfl, q, r⟩ := hd.tup A.fH
    obtain ⟨v2, e, r2⟩ := atI_rel r hz
    exact ix_tup value slice pins s σ H _ _ v u Q I rx ry ⟨a, xs, _, v2, rfl, hk.int, q, e, hq _ r2⟩ hs
  · obtain ⟨a, xs, rfl, q, r⟩ := hd.tup A.fH
    obtain ⟨v2, e, r2⟩ := atI_rel r hz
    rw [hk.bl] at ry
    cases rx; cases ry
    obtain ⟨its, rv, pl, hl⟩ := I.tuple q
    obtain ⟨j, h1, h2, h3, h4, h5⟩ := atI_get e
    obtain ⟨w, ew, rw2⟩ := rv.get h2
    have hl2 := rv.length
    exact PyProof.Rows.tail_any (ops := [.ref a, .bool _]) pl.typeIs PyProof.Rows.slot_tuple_getitem.lookup (getTupBool pl (by rw [List.size_toArray, ← hl2]; exact h1) (by simpa using ew) ⟨v2, H, I, rw2, hq _ r2⟩) hs
  · split at hz
    · rename_i s0 i hlen
      cases e : atD s0.cps.toList i with
      | none => rw [e] at hz; cases hz
      | some ch =>
        rw [e] at hz
        cases hz
        exact ix_str value slice pins s σ H _ _ v u Q I rx ry ⟨s0, i, ch, hd.str, hk.int, hlen, e, hq _ (by simp only [Rp])⟩ hs
    · cases hz
  · -- a shared list
    rename_i n i
    split at hz
    · rename_i ds e
      obtain ⟨a, e2, q⟩ := A.sh _ _ e
      obtain ⟨xs, eh, r⟩ := q.at_
      have hx := hd.rp (fun ds => by intro e; cases e)
      simp only [Rp] at hx
      obtain ⟨a2, rfl, e4⟩ := hx
      rw [e2] at e4
      cases e4
      obtain ⟨v2, ev, r2⟩ := atI_rel r hz
      exact ix_list value slice pins s σ H _ _ v u Q I rx ry ⟨a, xs, _, v2, rfl, hk.int, .inl (.inl eh), ev, hq _ r2⟩ hs
    · cases hz
  · split at hz
    · rename_i t kvs _ _ hf
      obtain ⟨a, rfl, ho⟩ := dct_own hd
      cases rx
      exact PyProof.Rows.tail_any (ops := [.ref a, u]) (own_typeIs I A.fH ho) PySem.F.slot_dict_getitem.lookup (own_getItem hu I A.fH ho hf (fit_rp hf hk) ry hz fun v w s' I' rd rw' => ⟨v, H, I', rw', hq _ rd⟩) hs
    · cases hz
  · cases hz
end
def rSlc (K : PySem.W.Frag) : V → Option Int → Option Int → Hp → VK → Prop := fun x lo hi H Q => ∃ c d z, (∀ a o, c.F a = some o → H a = some o) ∧ View K c H d x ∧ slcD lo hi d = some z ∧ Post K c H z Q
theorem cut_whole {α : Type} (ds : List α) (lo hi : Option Int) (h : HT.sIx ds.length 0 lo = 0 ∧ HT.sIx ds.length ds.length hi = ds.length) : cutD ds lo hi = ds := by
  unfold cutD
  rw [h.1, h.2]
  simp
section
variable {X : Cx}
theorem sl_all : SlR X (rSlc X.K) := by
  intro pins s σ H x v vl vu lo hi sl Q I rx hs pl pu ⟨c, d, z, hF, hd, hz, hq⟩
  unfold slcD at hz
  split at hz
  · cases hz
    obtain ⟨a, xs, rfl, q, r⟩ := hd.lst hF
    have hl : xs.length ≤ sizeLine := by
      obtain ⟨_, _, _, hz⟩ := I.list q
      exact hz
    exact sl_list pins s σ H _ v vl vu lo hi sl Q I rx hs pl pu ⟨a, xs, rfl, q, fun p hp => hq p _ hp (r.cut lo hi) (Nat.le_trans (cutV_length xs lo hi) hl)⟩
  · cases hz
    have vd := hd.rp (fun ds => by intro e; cases e)
    obtain ⟨a, xs, rfl, q, r⟩ := hd.tup hF
    have hl : xs.length ≤ sizeLine := by
      obtain ⟨_, _, _, hz⟩ := I.tuple q
      exact hz
    refine sl_tupA pins s σ H _ v vl vu lo hi sl Q I rx hs pl pu ⟨a, xs, rfl, q, fun hw => ?_, fun _ p hp => hq.2 p _ hp (r.cut lo hi) (Nat.le_trans (cutV_length xs lo hi) hl)⟩
    refine hq.1 _ ?_
    rw [cut_whole _ _ _ (by rw [r.length]; exact hw)]
    exact vd
  · split at hz
    · rename_i hlen
      cases hz
      refine sl_str pins s σ H _ v vl vu lo hi sl Q I rx hs pl pu ⟨_, hd.str, hlen, ?_⟩
      have := post_str hq
      unfold cutD at this
      rw [← strLen] at this
      exact this
    · cases hz
  · cases hz
/-- e[::-1] -/
def tRev (K : PySem.W.Frag) (te : TE) : TE := fun σ H Q => te σ H fun x H1 => ∃ c d z, (∀ a o, c.F a = some o → H1 a = some o) ∧ View K c H1 d x ∧ revD d = some z ∧ Post K c H1 z Q
theorem pe_rev {e : Expr} {te : TE} {k : Nat} {p1 p2 p3 pos : Pos} (he : PE X e te) : PE X (.Subscript e (.Slice none none (some (.UnaryOp .USub (.Constant (.int 1) k p1) p2)) p3) pos) (tRev X.K te) := by
  refine ⟨fun pins s σ H Q I h => ?_⟩
  refine PyProof.Rows.Subscript_ (thn (he.run pins s σ H _ I h) fun v s1 ⟨x, H1, I1, r1, q1⟩ => ?_)
  obtain ⟨c, d, z, hF, hd, hz, hq⟩ := q1
  have hst : PO X (some (.UnaryOp .USub (.Constant (.int 1) k p1) p2)) (tPart (tUn (rU fun i => .int (-i)) (tC (.int 1)))) := po_some (pe_un un_neg pe_int)
  refine wpAny_Slice (thn (po_none.run pins s1 σ H1 (fun o H2 => o = none ∧ H2 = H1) I1 ⟨rfl, rfl⟩) fun vl s2 ⟨l, H2, I2, pl, el, e2⟩ => ?_)
  subst el e2
  refine thn (po_none.run pins s2 σ H2 (fun o H3 => o = none ∧ H3 = H2) I2 ⟨rfl, rfl⟩) fun vu s3 ⟨u, H3, I3, pu, eu, e3⟩ => ?_
  subst eu e3
  refine thn (hst.run pins s3 σ H3 (fun o H4 => o = some (-1) ∧ H4 = H3) I3 ⟨1, rfl, -1, rfl, rfl, rfl⟩) fun vs s4 ⟨o, H4, I4, ps, eo, e4⟩ => ?_
  subst eo e4
  have I5 : L2.Inv X pins σ H4 { s4 with heap := s4.heap.push { cls := .type "slice", data := .fields #[vl, vu, vs] } } := I4.kept (t' := s4.toks) fun b ob q => Heap.get?_push_of_some _ q
  have hsl := Heap.IsSliceOf.new s4.heap vl vu vs
  show wpAny (model X.prog X.w) X.A (PyProof.Rows.subscriptTail e (.Slice none none (some (.UnaryOp .USub (.Constant (.int 1) k p1) p2)) p3) v (.ref s4.heap.objs.size)) (EP X pins σ Q) X.xe { s4 with heap := s4.heap.push { cls := .type "slice", data := .fields #[vl, vu, vs] } }
  unfold revD at hz
  split at hz
  · cases hz
    obtain ⟨a, xs, rfl, q, r⟩ := hd.lst hF
    cases r1
    obtain ⟨its, rv, ht, hl⟩ := I5.list q
    have hlen := rv.length
    refine PyProof.Rows.tail_any (ops := [.ref a, .ref s4.heap.objs.size]) ht.isList.typeIs (PySem.slot_list_getitem.lookup) ?_ (by with_unfolding_all rfl)
    refine wpAny_getItem_list_slice ht.isList hsl pl pu ps (by decide) ?_ (by rw [List.size_toArray]; omega)
    rw [PySem.W.krv_pick]
    have hz2 : xs.reverse.length ≤ sizeLine := by rw [List.length_reverse]; exact hl
    refine ⟨.ref _, _, I5.laid (t' := s4.toks) (o := .lst xs.reverse) (fun b ob q => Heap.get?_push_of_some _ q) (Nat.le_refl _) ?_, rfl, hq _ _ (I5.hok.fresh (Nat.le_refl _)) r.reverse hz2⟩
    exact ⟨hz2, _, 0, rv.reverse, Heap.get?_push_size _ rfl⟩
  · cases hz
    obtain ⟨a, xs, rfl, q, r⟩ := hd.tup hF
    cases r1
    obtain ⟨its, rv, ht, hl⟩ := I5.tuple q
    have hlen := rv.length
    refine PyProof.Rows.tail_any (ops := [.ref a, .ref s4.heap.objs.size]) ht.typeIs PyProof.Rows.slot_tuple_getitem.lookup ?_ (by with_unfolding_all rfl)
    have hz2 : xs.reverse.length ≤ sizeLine := by rw [List.length_reverse]; exact hl
    refine getTupRev ht hsl pl pu ps ?_ (by rw [List.size_toArray]; omega)
    refine ⟨.ref _, _, I5.laid (t' := s4.toks) (o := .tup xs.reverse) (fun b ob q => Heap.get?_push_of_some _ q) (Nat.le_refl _) ?_, rfl, hq.2 _ _ (I5.hok.fresh (Nat.le_refl _)) r.reverse hz2⟩
    exact ⟨hz2, its.reverse, rv.reverse, PyProof.Rows.IsTup.new _ _⟩
  · split at hz
    · rename_i s0 hlen
      cases hz
      rw [hd.str] at r1
      obtain ⟨t, rfl⟩ := r1
      refine PyProof.Rows.tail_any (ops := [.str s0 t, .ref s4.heap.objs.size]) (typeIs_str _ s0 t) PyProof.Rows.slot_str_getitem.lookup ?_ (by with_unfolding_all rfl)
      exact getStrRev hsl pl pu ps hlen ⟨.str _, _, I5.tok _, ⟨_, rfl⟩, post_str hq⟩
    · cases hz
  · cases hz
end
end Pv

set_option maxRecDepth 100000
/-! Pv.Bi: built-in functions by values. -/
namespace Pv
open PySem PySem.Spec L2

def rBi (K : PySem.W.Frag) (b : Bi) : List V → Hp → VK → Prop := fun xs H Q => ∃ c ds z, (∀ a o, c.F a = some o → H a = some o) ∧ Views K c H ds xs ∧ biD b ds = some z ∧ Post K c H z Q
section
variable {K : PySem.W.Frag} {c : Gh} {H : Hp}
theorem Views.one {d : D} {xs : List V} (h : Views K c H [d] xs) : ∃ v, xs = [v] ∧ View K c H d v := by
  obtain ⟨v, r, rfl, h1, h2⟩ := h
  have h2' : r = [] := h2
  subst h2'
  exact ⟨v, rfl, h1⟩
theorem Views.two {d e : D} {xs : List V} (h : Views K c H [d, e] xs) : ∃ v u, xs = [v, u] ∧ View K c H d v ∧ View K c H e u := by
  obtain ⟨v, r, rfl, h1, h2⟩ := h
  obtain ⟨u, rfl, h3⟩ := h2.one
  exact ⟨v, u, rfl, h1, h3⟩
theorem blsOf_rel : ∀ {ds : List D} {bs : List Bool} {xs : List V}, blsOf ds = some bs → RpL K c ds xs → xs = bs.map V.bl
  | [], bs, xs, e, r => by
    simp only [RpL] at r; subst r
    cases e; rfl
  | .bl b :: ds, bs, xs, e, r => by
    simp only [RpL] at r
    obtain ⟨y, ys, rfl, q, t⟩ := r
    simp only [Rp] at q; subst q
    have e' : (blsOf ds).map (b :: ·) = some bs := e
    cases q2 : blsOf ds with
    | none => rw [q2] at e'; cases e'
    | some bs' =>
      rw [q2] at e'; cases e'
      rw [blsOf_rel q2 t]; rfl
  | .non :: ds, bs, xs, e, r => by cases e
  | .int _ :: ds, bs, xs, e, r => by cases e
  | .str _ :: ds, bs, xs, e, r => by cases e
  | .tup _ :: ds, bs, xs, e, r => by cases e
  | .lst _ :: ds, bs, xs, e, r => by cases e
  | .dict _ :: ds, bs, xs, e, r => by cases e
  | .ref _ :: ds, bs, xs, e, r => by cases e
theorem intsOf_rel : ∀ {ds : List D} {bs : List Int} {xs : List V}, intsOf ds = some bs → RpL K c ds xs → xs = bs.map V.int
  | [], bs, xs, e, r => by
    simp only [RpL] at r; subst r
    cases e; rfl
  | .int b :: ds, bs, xs, e, r => by
    simp only [RpL] at r
    obtain ⟨y, ys, rfl, q, t⟩ := r
    simp only [Rp] at q; subst q
    have e' : (intsOf ds).map (b :: ·) = some bs := e
    cases q2 : intsOf ds with
    | none => rw [q2] at e'; cases e'
    | some bs' =>
      rw [q2] at e'; cases e'
      rw [intsOf_rel q2 t]; rfl
  | .non :: ds, bs, xs, e, r => by cases e
  | .bl _ :: ds, bs, xs, e, r => by cases e
  | .str _ :: ds, bs, xs, e, r => by cases e
  | .tup _ :: ds, bs, xs, e, r => by cases e
  | .lst _ :: ds, bs, xs, e, r => by cases e
  | .dict _ :: ds, bs, xs, e, r => by cases e
  | .ref _ :: ds, bs, xs, e, r => by cases e
theorem strsOf_rel : ∀ {ds : List D} {bs : List Str} {xs : List V}, strsOf ds = some bs → RpL K c ds xs → xs = bs.map V.str
  | [], bs, xs, e, r => by
    simp only [RpL] at r; subst r
    cases e; rfl
  | .str b :: ds, bs, xs, e, r => by
    simp only [RpL] at r
    obtain ⟨y, ys, rfl, q, t⟩ := r
    simp only [Rp] at q; subst q
    have e' : (strsOf ds).map (b :: ·) = some bs := e
    cases q2 : strsOf ds with
    | none => rw [q2] at e'; cases e'
    | some bs' =>
      rw [q2] at e'; cases e'
      rw [strsOf_rel q2 t]; rfl
  | .non :: ds, bs, xs, e, r => by cases e
  | .bl _ :: ds, bs, xs, e, r => by cases e
  | .int _ :: ds, bs, xs, e, r => by cases e
  | .tup _ :: ds, bs, xs, e, r => by cases e
  | .lst _ :: ds, bs, xs, e, r => by cases e
  | .dict _ :: ds, bs, xs, e, r => by cases e
  | .ref _ :: ds, bs, xs, e, r => by cases e
end
/-! ### sorted -/
open PySem.W in
theorem each_zip {α : Type} : ∀ {vs : List Value} {bs : List α} {Rel : Value → α → Prop}, vs.length = bs.length → (∀ (i : Nat) v b, vs[i]? = some v → bs[i]? = some b → Rel v b) → EachIs Rel vs bs
  | [], [], _, _, _ => .nil
  | [], _ :: _, _, h, _ => by simp at h
  | _ :: _, [], _, h, _ => by simp at h
  | v :: vs, b :: bs, Rel, h, f => .cons (f 0 v b rfl rfl) (each_zip (by simpa using h) fun i v b h1 h2 => f (i + 1) v b (by simpa using h1) (by simpa using h2))
open PySem.W in
theorem each_at {α : Type} {Rel : Value → α → Prop} : ∀ {vs : List Value} {bs : List α}, EachIs Rel vs bs → ∀ (i : Nat) b, bs[i]? = some b → ∃ v, vs[i]? = some v ∧ Rel v b
  | _, _, .nil, i, b, h => by simp at h
  | _, _, .cons r t, 0, b, h => by simp at h; subst h; exact ⟨_, rfl, r⟩
  | _, _, .cons r t, i + 1, b, h => by
    obtain ⟨v, h1, h2⟩ := each_at t i b (by simpa using h)
    exact ⟨v, by simpa using h1, h2⟩
theorem srtD_some {ds es : List D} (h : srtD ds = some es) : aliAll ds = true ∧ srtAll ds = true ∧ ds.length ≤ sizeLine ∧ D.plL ds = true ∧ D.depL ds ≤ 60 ∧ es = ds.mergeSort (PySem.W.dataLe false D.toP) := by
  unfold srtD at h
  split at h
  · rename_i q
    rw [Bool.and_eq_true, Bool.and_eq_true, Bool.and_eq_true, Bool.and_eq_true] at q
    cases h
    exact ⟨q.1.1.1.1, q.1.1.1.2, lenOk_le q.1.1.2, q.1.2, of_decide_eq_true q.2, rfl⟩
  · cases h
theorem plL_mem : ∀ {ds : List D} {d : D}, D.plL ds = true → d ∈ ds → d.pl = true
  | _ :: ds, d, h, m => by
    simp only [D.plL, Bool.and_eq_true] at h
    rcases List.mem_cons.mp m with rfl | m
    · exact h.1
    · exact plL_mem h.2 m
theorem depL_mem : ∀ {ds : List D} {d : D}, d ∈ ds → d.dep ≤ D.depL ds
  | x :: ds, d, m => by
    simp only [D.depL]
    rcases List.mem_cons.mp m with rfl | m
    · exact Nat.le_max_left _ _
    · exact Nat.le_trans (depL_mem m) (Nat.le_max_right _ _)
theorem aliAll_of {ds : List D} (h : aliAll ds = true) : PySem.W.AllAlike (ds.map D.toP) := by
  intro x hx y hy
  obtain ⟨d, hd, rfl⟩ := List.mem_map.mp hx
  obtain ⟨e, he, rfl⟩ := List.mem_map.mp hy
  unfold aliAll at h
  exact toP_ali d e (List.all_eq_true.mp (List.all_eq_true.mp h d hd) e he)
theorem srtAll_of {ds : List D} (hp : D.plL ds = true) (h : srtAll ds = true) : PySem.W.Sortable (ds.map D.toP) := by
  unfold srtAll at h
  rw [Bool.or_eq_true] at h
  rcases h with h | h
  · refine .inl fun x hx => ?_
    obtain ⟨d, hd, rfl⟩ := List.mem_map.mp hx
    have := List.all_eq_true.mp h d hd
    cases d with
    | tup ds =>
      cases ds with
      | nil => simp at this
      | cons a r => exact ⟨a.toP, D.toPs r, by simp [D.toP, D.toPs]⟩
    | _ => simp at this
  · refine .inr fun x hx => ?_
    obtain ⟨d, hd, rfl⟩ := List.mem_map.mp hx
    have := List.all_eq_true.mp h d hd
    have hpl := plL_mem hp hd
    cases d with
    | non => simp at this
    | tup ds => simp at this
    | bl _ => exact ⟨by simp [D.toP], fun xs => by simp [D.toP]⟩
    | int _ => exact ⟨by simp [D.toP], fun xs => by simp [D.toP]⟩
    | str _ => exact ⟨by simp [D.toP], fun xs => by simp [D.toP]⟩
    | lst _ => exact ⟨by simp [D.toP], fun xs => by simp [D.toP]⟩
    | dict _ => simp [D.pl] at hpl
    | ref _ => simp [D.pl] at hpl
section
variable {X : Cx} {pins : List (Addr × Obj)} {σ : St} {H : Hp} {s : Shared} {c : Gh}
/-- sorted of a list at l -/
theorem sorted_ok (hu : X.A.units + 64 < cLine) {l : Addr} {ds es : List D} {xs : List V} {Q : VK} (I : L2.Inv X pins σ H s) (hF : ∀ a o, c.F a = some o → H a = some o) (hq : SqL X.K H l xs) (r : RpL X.K c ds xs) (he : srtD ds = some es)
    (h : ∀ p ys, H p = none → RpL X.K c es ys → ys.length ≤ sizeLine → Q (.ref p) (upd H p (.lst ys))) : wpAny (model X.prog X.w) X.A (call (.builtin "sorted") [.ref l]) (EP X pins σ Q) X.xe s := by
  obtain ⟨h1, h2, h3, h4, h5, rfl⟩ := srtD_some he
  obtain ⟨its, rv, pl, hz⟩ := I.list hq
  have hl := r.length
  have hl2 := rv.length
  -- what an item stands for: its datum, its value
  let bs : List (D × V) := ds.zip xs
  have hbl : bs.length = ds.length := by simp [bs, List.length_zip, hl]
  have hm1 : bs.map Prod.fst = ds := by simp [bs, List.map_fst_zip (Nat.le_of_eq hl)]
  have mem : ∀ b ∈ bs, Rp X.K c b.1 b.2 ∧ b.1 ∈ ds := fun b hb => by
    obtain ⟨i, hi⟩ := List.getElem?_of_mem hb
    have := List.getElem?_zip_eq_some.mp hi
    obtain ⟨v, e1, e2⟩ := r.get this.1
    rw [this.2] at e1; cases e1
    exact ⟨e2, List.mem_of_getElem? this.1⟩
  have menc : bs.map (fun b => b.1.toP) = ds.map D.toP := by rw [← hm1, List.map_map]; rfl
  refine PySem.W.sorted_data (β := D × V) (enc := fun b => b.1.toP) (R := fun v b => RelV b.2 v ∧ b ∈ bs) (bs := bs) pl.isList
    (each_zip (by rw [hbl, hl, ← hl2]) fun i v b e1 e2 => ?_) (each_zip (by rw [hbl, hl, ← hl2]) fun i v b e1 e2 => ?_) (by rw [menc]; exact aliAll_of h1) (by rw [menc]; exact srtAll_of h4 h2) (by rw [hbl]; exact h3) (fun b hb => ?_) fun out ho hE => ?_
  · obtain ⟨h6, h7⟩ := List.getElem?_zip_eq_some.mp e2
    obtain ⟨u, e3, e4⟩ := rv.get h7
    rw [e1] at e3; cases e3
    exact ⟨e4, List.mem_of_getElem? e2⟩
  · obtain ⟨h6, h7⟩ := List.getElem?_zip_eq_some.mp e2
    obtain ⟨u, e3, e4⟩ := rv.get h7
    rw [e1] at e3; cases e3
    have hb := mem b (List.mem_of_getElem? e2)
    exact Dp.reads I b.1.toP b.2 v (Rp.dp hF b.1 b.2 (plL_mem h4 hb.2) hb.1) e4
  · rw [toP_dep]
    have := depL_mem (mem b hb).2
    omega
  · obtain ⟨ep, hep⟩ := PyProof.Rows.sortedAll_at s.heap its out.toArray
    let cs := bs.mergeSort (PySem.W.dataLe false fun b => b.1.toP)
    have hcl : cs.length = ds.length := by simp [cs, hbl]
    have hol : out.length = cs.length := by rw [hcl, ← hbl]; exact ho
    have hds : cs.map Prod.fst = ds.mergeSort (PySem.W.dataLe false D.toP) := by
      rw [← hm1]
      exact PySem.W.sort_maps (r := PySem.W.dataLe false fun b : D × V => b.1.toP) (s := PySem.W.dataLe false D.toP) Prod.fst fun a _ b _ => rfl
    have hV : Vals (cs.map Prod.snd) out := by
      have go : ∀ {out : List Value} {cs : List (D × V)}, PySem.W.EachIs (fun v (b : D × V) => RelV b.2 v ∧ b ∈ bs) out cs → Vals (cs.map Prod.snd) out := by
        intro out cs h
        induction h with
        | nil => exact .nil
        | cons r _ ih => exact .cons r.1 ih
      exact go hE
    have hR : RpL X.K c (cs.map Prod.fst) (cs.map Prod.snd) := RpL.of_get (by simp) fun i d v e1 e2 => by
      rw [List.getElem?_map] at e1 e2
      cases e : cs[i]? with
      | none => rw [e] at e1; cases e1
      | some b =>
        rw [e] at e1 e2
        cases e1; cases e2
        have hb : b ∈ bs := List.mem_mergeSort.mp (List.mem_of_getElem? e)
        exact (mem b hb).1
    have hz2 : (cs.map Prod.snd).length ≤ sizeLine := by rw [List.length_map, hcl]; exact h3
    exact ⟨.ref _, upd H (s.heap.objs.size + 1) (.lst (cs.map Prod.snd)), I.laid (t' := s.toks) (fun _ _ => PyProof.Rows.sortedAll_old) (Nat.le_succ _) ⟨hz2, out, ep, hV, hep⟩, rfl,
      h _ _ (I.hok.fresh (Nat.le_succ _)) (by rw [← hds]; exact hR) hz2⟩
end
section
variable {X : Cx}
theorem bi_len : CallR X (.builtin "len") (rBi X.K .len) := by
  intro pins s σ H xs us Q I r ⟨c, ds, z, hF, hv, hz, hq⟩
  refine call_len pins s σ H xs us Q I r ?_
  unfold biD lenD at hz
  dsimp only at hz
  split at hz
  · cases hz
    obtain ⟨v, rfl, h⟩ := hv.one
    obtain ⟨a, xs, rfl, q, rr⟩ := h.lst hF
    exact ⟨_, _, rfl, .inl ⟨xs, q, rr.length⟩, post_int hq⟩
  · cases hz
    obtain ⟨v, rfl, h⟩ := hv.one
    obtain ⟨a, xs, rfl, q, rr⟩ := h.tup hF
    exact ⟨_, _, rfl, .inr ⟨xs, q, rr.length⟩, post_int hq⟩
  · split at hz
    · rename_i hl
      cases hz
      obtain ⟨v, rfl, h⟩ := hv.one
      rw [h.str]
      exact ⟨_, _, rfl, ⟨hl, rfl⟩, post_int hq⟩
    · cases hz
  · cases hz
theorem bi_tuple : CallR X (.type "tuple") (rBi X.K .tuple) := by
  intro pins s σ H xs us Q I r ⟨c, ds, z, hF, hv, hz, hq⟩
  refine call_tuple_of pins s σ H xs us Q I r ?_
  unfold biD tupleD at hz
  dsimp only at hz
  split at hz
  · cases hz
    obtain ⟨v, rfl, h⟩ := hv.one
    obtain ⟨a, xs, rfl, q, rr⟩ := h.lst hF
    obtain ⟨_, _, _, hl⟩ := I.list q
    exact ⟨a, xs, rfl, .inl ⟨q, fun p hp => hq.2 p xs hp rr hl⟩⟩
  · cases hz
    obtain ⟨v, rfl, h⟩ := hv.one
    have vd := h.rp (fun ds => by intro e; cases e)
    obtain ⟨a, xs, rfl, q, rr⟩ := h.tup hF
    exact ⟨a, xs, rfl, .inr ⟨q, hq.1 _ vd⟩⟩
  · cases hz
theorem bi_list : CallR X (.type "list") (rBi X.K .list) := by
  intro pins s σ H xs us Q I r ⟨c, ds, z, hF, hv, hz, hq⟩
  refine call_list_of pins s σ H xs us Q I r ?_
  unfold biD listD at hz
  dsimp only at hz
  split at hz
  · cases hz
    obtain ⟨v, rfl, h⟩ := hv.one
    obtain ⟨a, xs, rfl, q, rr⟩ := h.lst hF
    obtain ⟨_, _, _, hl⟩ := I.list q
    exact ⟨a, xs, rfl, .inl q, fun p hp => hq p xs hp rr hl⟩
  · cases hz
    obtain ⟨v, rfl, h⟩ := hv.one
    obtain ⟨a, xs, rfl, q, rr⟩ := h.tup hF
    obtain ⟨_, _, _, hl⟩ := I.tuple q
    exact ⟨a, xs, rfl, .inr q, fun p hp => hq p xs hp rr hl⟩
  · cases hz
theorem map_some {α β : Type} {f : α → β} {o : Option α} {b : β} (h : o.map f = some b) : ∃ a, o = some a ∧ f a = b := by
  cases o with
  | none => cases h
  | some a => exact ⟨a, rfl, Option.some.inj h⟩
theorem bi_all (hc : X.calm = true) : CallR X (.builtin "all") (rBi X.K .all) := by
  intro pins s σ H xs us Q I r ⟨c, ds, z, hF, hv, hz, hq⟩
  refine cr_all hc pins s σ H xs us Q I r ?_
  unfold biD allD at hz
  dsimp only at hz
  split at hz
  · obtain ⟨bs, e, rfl⟩ := map_some hz
    obtain ⟨v, rfl, h⟩ := hv.one
    obtain ⟨a, xs, rfl, q, rr⟩ := h.lst hF
    rw [blsOf_rel e rr] at q
    exact ⟨a, bs, rfl, q, post_bl hq⟩
  · cases hz
theorem bi_any (hc : X.calm = true) : CallR X (.builtin "any") (rBi X.K .any) := by
  intro pins s σ H xs us Q I r ⟨c, ds, z, hF, hv, hz, hq⟩
  refine cr_any hc pins s σ H xs us Q I r ?_
  unfold biD anyD at hz
  dsimp only at hz
  split at hz
  · obtain ⟨bs, e, rfl⟩ := map_some hz
    obtain ⟨v, rfl, h⟩ := hv.one
    obtain ⟨a, xs, rfl, q, rr⟩ := h.lst hF
    rw [blsOf_rel e rr] at q
    exact ⟨a, bs, rfl, q, post_bl hq⟩
  · cases hz
theorem bi_sum (hc : X.calm = true) : CallR X (.builtin "sum") (rBi X.K .sum) := by
  intro pins s σ H xs us Q I r ⟨c, ds, z, hF, hv, hz, hq⟩
  refine cr_sum hc pins s σ H xs us Q I r ?_
  unfold biD sumD at hz
  dsimp only at hz
  split at hz
  · obtain ⟨bs, e, rfl⟩ := map_some hz
    obtain ⟨v, rfl, h⟩ := hv.one
    obtain ⟨a, xs, rfl, q, rr⟩ := h.lst hF
    rw [intsOf_rel e rr] at q
    exact ⟨a, bs, rfl, q, post_int hq⟩
  · cases hz
theorem bi_abs : CallR X (.builtin "abs") (rBi X.K .abs) := by
  intro pins s σ H xs us Q I r ⟨c, ds, z, hF, hv, hz, hq⟩
  refine call_abs pins s σ H xs us Q I r ?_
  unfold biD absD at hz
  dsimp only at hz
  split at hz
  · cases hz
    obtain ⟨v, rfl, h⟩ := hv.one
    rw [h.int]
    exact ⟨_, rfl, post_int hq⟩
  · cases hz
theorem bi_int : CallR X (.type "int") (rBi X.K .int) := by
  intro pins s σ H xs us Q I r ⟨c, ds, z, hF, hv, hz, hq⟩
  refine call_int1 pins s σ H xs us Q I r ?_
  unfold biD intD at hz
  dsimp only at hz
  split at hz
  · cases hz
    obtain ⟨v, rfl, h⟩ := hv.one
    rw [h.int]
    exact .inl ⟨_, rfl, post_int hq⟩
  · cases hz
theorem bi_max (hc : X.calm = true) : CallR X (.builtin "max") (rBi X.K .max) := by
  intro pins s σ H xs us Q I r ⟨c, ds, z, hF, hv, hz, hq⟩
  refine call_max2 hc pins s σ H xs us Q I r ?_
  unfold biD maxD at hz
  dsimp only at hz
  split at hz
  · cases hz
    obtain ⟨v, u, rfl, h, h2⟩ := hv.two
    rw [h.int, h2.int]
    exact ⟨_, _, rfl, post_int hq⟩
  · cases hz
theorem bi_min (hc : X.calm = true) : CallR X (.builtin "min") (rBi X.K .min) := by
  intro pins s σ H xs us Q I r ⟨c, ds, z, hF, hv, hz, hq⟩
  refine call_min2 hc pins s σ H xs us Q I r ?_
  unfold biD minD at hz
  dsimp only at hz
  split at hz
  · cases hz
    obtain ⟨v, u, rfl, h, h2⟩ := hv.two
    rw [h.int, h2.int]
    exact ⟨_, _, rfl, post_int hq⟩
  · cases hz
theorem bi_sorted (hu : X.A.units + 64 < cLine) : CallR X (.builtin "sorted") (rBi X.K .sorted) := by
  intro pins s σ H xs us Q I r ⟨c, ds, z, hF, hv, hz, hq⟩
  unfold biD sortedD at hz
  dsimp only at hz
  split at hz
  · obtain ⟨es, e, rfl⟩ := map_some hz
    obtain ⟨v, rfl, h⟩ := hv.one
    obtain ⟨a, xs, rfl, q, rr⟩ := h.lst hF
    rw [Vals.ref1 r]
    exact sorted_ok hu I hF q rr e hq
  · cases hz
theorem bi_join : MtR X "str.join" (fun x xs H Q => ∃ c ds z, (∀ a o, c.F a = some o → H a = some o) ∧ Views X.K c H ds (x :: xs) ∧ biD .join ds = some z ∧ Post X.K c H z Q) := by
  intro pins s σ H x xs v us Q I rx rxs ⟨c, ds, z, hF, hv, hz, hq⟩
  refine mt_join pins s σ H x xs v us Q I rx rxs ?_
  unfold biD joinD at hz
  dsimp only at hz
  split at hz
  · rename_i a ds
    cases e : strsOf ds with
    | none => rw [e] at hz; cases hz
    | some ss =>
      rw [e] at hz
      have hz' : (if decide ((ss.map fun s => s.length).sum + ss.length * a.length ≤ 16777216) then some (D.str (Txt.join a ss)) else none) = some z := hz
      split at hz'
      · rename_i hl
        cases hz'
        obtain ⟨v1, u1, e1, h, h2⟩ := hv.two
        cases e1
        obtain ⟨p, ys, rfl, q, rr⟩ := h2.lst hF
        rw [strsOf_rel e rr] at q
        exact ⟨a, p, ss, h.str, rfl, .inl q, of_decide_eq_true hl, post_str hq⟩
      · cases hz'
  · cases hz
end
end Pv

set_option maxRecDepth 100000
/-! Pv.Sort: the order of values is total and of one mind. -/
namespace Pv
open PySem PySem.W
abbrev lx (a b : List (Int ⊕ List Nat)) : Bool := PyProof.Rows.lexLt PyProof.Rows.itemOrd a b
mutual
theorem eq_of_eqv : ∀ x y : D, x.ali y = true → D.eqv x y = true → x = y
  | .non, y, h, e => by cases y <;> first | rfl | cases h
  | .bl a, y, h, e => by
    cases y <;> first | cases h; done | skip
    rename_i b
    simp only [D.eqv, beq_iff_eq] at e
    rw [e]
  | .int a, y, h, e => by
    cases y <;> first | cases h; done | skip
    rename_i b
    simp only [D.eqv, beq_iff_eq] at e
    rw [e]
  | .str a, y, h, e => by
    cases y <;> first | cases h; done | skip
    rename_i b
    simp only [D.eqv, beq_iff_eq] at e
    rw [e]
  | .tup a, y, h, e => by
    cases y <;> first | cases h; done | skip
    rename_i b
    simp only [D.eqv] at e
    simp only [D.ali] at h
    rw [eq_of_eqvL a b h e]
  | .lst a, y, h, e => by
    cases y <;> first | cases h; done | skip
    rename_i b
    simp only [D.eqv] at e
    simp only [D.ali] at h
    rw [eq_of_eqvL a b h e]
  | .dict a, y, h, e => by cases y <;> cases h
  | .ref a, y, h, e => by cases y <;> cases h
theorem eq_of_eqvL : ∀ xs ys : List D, D.aliL xs ys = true → D.eqvL xs ys = true → xs = ys
  | [], [], _, _ => rfl
  | [], _ :: _, _, e => by cases e
  | _ :: _, [], _, e => by cases e
  | x :: xs, y :: ys, h, e => by
    simp only [D.aliL, Bool.and_eq_true] at h
    simp only [D.eqvL, Bool.and_eq_true] at e
    rw [eq_of_eqv x y h.1 e.1, eq_of_eqvL xs ys h.2 e.2]
end
mutual
theorem ali_symm : ∀ x y : D, x.ali y = true → y.ali x = true
  | .non, y, h => by cases y <;> first | rfl | cases h
  | .bl a, y, h => by cases y <;> first | rfl | cases h
  | .int a, y, h => by cases y <;> first | rfl | cases h
  | .str a, y, h => by cases y <;> first | rfl | cases h
  | .tup a, y, h => by
    cases y <;> first | cases h; done | skip
    rename_i b
    simp only [D.ali] at h ⊢
    exact ali_symmL a b h
  | .lst a, y, h => by
    cases y <;> first | cases h; done | skip
    rename_i b
    simp only [D.ali] at h ⊢
    exact ali_symmL a b h
  | .dict a, y, h => by cases y <;> cases h
  | .ref a, y, h => by cases y <;> cases h
theorem ali_symmL : ∀ xs ys : List D, D.aliL xs ys = true → D.aliL ys xs = true
  | [], [], _ => rfl
  | [], _ :: _, _ => rfl
  | _ :: _, [], _ => rfl
  | x :: xs, y :: ys, h => by
    simp only [D.aliL, Bool.and_eq_true] at h ⊢
    exact ⟨ali_symm x y h.1, ali_symmL xs ys h.2⟩
end
mutual
theorem eqv_symm : ∀ x y : D, D.eqv x y = D.eqv y x
  | .non, y => by cases y <;> simp only [D.eqv]
  | .bl a, y => by cases y <;> simp only [D.eqv] <;> first | exact Bool.beq_comm | skip
  | .int a, y => by
    cases y with
    | int b => simp only [D.eqv]; exact Bool.eq_iff_iff.mpr ⟨fun h => by simpa using (beq_iff_eq.mp h).symm, fun h => by simpa using (beq_iff_eq.mp h).symm⟩
    | bl b => simp only [D.eqv]; exact Bool.eq_iff_iff.mpr ⟨fun h => by simpa using (beq_iff_eq.mp h).symm, fun h => by simpa using (beq_iff_eq.mp h).symm⟩
    | _ => simp only [D.eqv]
  | .str a, y => by
    cases y with
    | str b => simp only [D.eqv]; exact Bool.eq_iff_iff.mpr ⟨fun h => by simpa using (beq_iff_eq.mp h).symm, fun h => by simpa using (beq_iff_eq.mp h).symm⟩
    | _ => simp only [D.eqv]
  | .tup a, y => by
    cases y with
    | tup b => simp only [D.eqv]; exact eqv_symmL a b
    | _ => simp only [D.eqv]
  | .lst a, y => by
    cases y with
    | lst b => simp only [D.eqv]; exact eqv_symmL a b
    | _ => simp only [D.eqv]
  | .dict a, y => by cases y <;> simp only [D.eqv]
  | .ref a, y => by cases y <;> simp only [D.eqv]
theorem eqv_symmL : ∀ xs ys : List D, D.eqvL xs ys = D.eqvL ys xs
  | [], [] => rfl
  | [], _ :: _ => rfl
  | _ :: _, [] => rfl
  | x :: xs, y :: ys => by simp only [D.eqvL]; rw [eqv_symm x y, eqv_symmL xs ys]
end
mutual
theorem tri : ∀ x y : D, x.pl = true → y.pl = true → x.ali y = true → D.eqv x y = true ∨ dataLt x.toP y.toP = true ∨ dataLt y.toP x.toP = true
  | .non, y, hx, hy, h => by cases y <;> first | exact .inl rfl | cases h
  | .bl a, y, hx, hy, h => by
    cases y <;> first | cases h; done | skip
    rename_i b
    cases a <;> cases b <;> first | exact .inl rfl | exact .inr (.inl (by rw [D.toP, D.toP, dataLt_bool]; rfl)) | exact .inr (.inr (by rw [D.toP, D.toP, dataLt_bool]; rfl))
  | .int a, y, hx, hy, h => by
    cases y <;> first | cases h; done | skip
    rename_i b
    rcases Int.lt_trichotomy a b with z | z | z
    · exact .inr (.inl (by rw [D.toP, D.toP, dataLt_int]; exact decide_eq_true z))
    · exact .inl (by rw [z]; simp [D.eqv])
    · exact .inr (.inr (by rw [D.toP, D.toP, dataLt_int]; exact decide_eq_true z))
  | .str a, y, hx, hy, h => by
    cases y <;> first | cases h; done | skip
    rename_i b
    rcases Classical.em (a.cps.toList < b.cps.toList) with z | z
    · exact .inr (.inl (by rw [D.toP, D.toP, dataLt_str]; exact decide_eq_true z))
    · rcases Classical.em (b.cps.toList < a.cps.toList) with z2 | z2
      · exact .inr (.inr (by rw [D.toP, D.toP, dataLt_str]; exact decide_eq_true z2))
      · refine .inl ?_
        have : a.cps.toList = b.cps.toList := List.le_antisymm (List.not_lt.mp z2) (List.not_lt.mp z)
        rw [str_of_cps this]
        simp [D.eqv]
  | .tup a, y, hx, hy, h => by
    cases y <;> first | cases h; done | skip
    rename_i b
    rw [D.toP, D.toP, dataLt_tuple, dataLt_tuple]
    exact triL a b hx hy h
  | .lst a, y, hx, hy, h => by
    cases y <;> first | cases h; done | skip
    rename_i b
    rw [D.toP, D.toP, dataLt_list, dataLt_list]
    exact triL a b hx hy h
  | .dict a, y, hx, hy, h => by cases y <;> cases h
  | .ref a, y, hx, hy, h => by cases y <;> cases h
theorem triL : ∀ xs ys : List D, D.plL xs = true → D.plL ys = true → D.aliL xs ys = true → D.eqvL xs ys = true ∨ lx (keyToksAll (D.toPs xs)) (keyToksAll (D.toPs ys)) = true ∨ lx (keyToksAll (D.toPs ys)) (keyToksAll (D.toPs xs)) = true
  | [], [], _, _, _ => .inl rfl
  | [], y :: ys, _, _, _ => by
    refine .inr (.inl ?_)
    rw [D.toPs, D.toPs, toks_all_cons, keyToksAll]
    exact (lex_atom (p := .inl 0) (q := .inl 1) (by decide) _ _).trans (by decide)
  | x :: xs, [], _, _, _ => by
    refine .inr (.inr ?_)
    rw [D.toPs, D.toPs, toks_all_cons, keyToksAll]
    exact (lex_atom (p := .inl 0) (q := .inl 1) (by decide) _ _).trans (by decide)
  | x :: xs, y :: ys, hx, hy, h => by
    simp only [D.plL, Bool.and_eq_true] at hx hy
    simp only [D.aliL, Bool.and_eq_true] at h
    have a1 := toP_ali x y h.1
    have a2 : alike y.toP x.toP = true := toP_ali y x (ali_symm x y h.1)
    rw [D.toPs, D.toPs]
    show _ ∨ PyProof.Rows.lexLt PyProof.Rows.itemOrd _ _ = true ∨ PyProof.Rows.lexLt PyProof.Rows.itemOrd _ _ = true
    rw [dataLt_cons a1, dataLt_cons a2, toP_eqv x y hx.1 hy.1, toP_eqv y x hy.1 hx.1]
    rw [eqv_symm y x]
    cases e : D.eqv x y with
    | true =>
      simp only [if_true, D.eqvL, e, Bool.true_and]
      exact triL xs ys hx.2 hy.2 h.2
    | false =>
      simp only [Bool.false_eq_true, if_false]
      rcases tri x y hx.1 hy.1 h.1 with z | z | z
      · rw [e] at z; cases z
      · exact .inr (.inl z)
      · exact .inr (.inr z)
end
mutual
theorem eqv_refl : ∀ x : D, x.pl = true → D.eqv x x = true
  | .non, _ => rfl
  | .bl a, _ => by simp [D.eqv]
  | .int a, _ => by simp [D.eqv]
  | .str a, _ => by simp [D.eqv]
  | .tup a, h => by simp only [D.eqv]; exact eqv_reflL a h
  | .lst a, h => by simp only [D.eqv]; exact eqv_reflL a h
  | .dict a, h => by cases h
  | .ref a, h => by cases h
theorem eqv_reflL : ∀ xs : List D, D.plL xs = true → D.eqvL xs xs = true
  | [], _ => rfl
  | x :: xs, h => by
    simp only [D.plL, Bool.and_eq_true] at h
    simp only [D.eqvL, eqv_refl x h.1, eqv_reflL xs h.2, Bool.and_self]
end
abbrev dLe : D → D → Bool := dataLe false D.toP
theorem dLe_total : TotalLe dLe := sortLe_total _ _ _
theorem dLe_anti {x y : D} (hx : x.pl = true) (hy : y.pl = true) (ha : x.ali y = true) (h1 : dLe x y = true) (h2 : dLe y x = true) : x = y := by
  have h1' : (!dataLt y.toP x.toP) = true := h1
  have h2' : (!dataLt x.toP y.toP) = true := h2
  rcases tri x y hx hy ha with z | z | z
  · exact eq_of_eqv x y ha z
  · rw [z] at h2'; cases h2'
  · rw [z] at h1'; cases h1'
/-- in whatever order they come -/
theorem sort_perm {xs ys : List D} (hp : xs.Perm ys) (ha : ∀ x ∈ xs, ∀ y ∈ xs, x.ali y = true) (hl : ∀ x ∈ xs, x.pl = true) : xs.mergeSort dLe = ys.mergeSort dLe := by
  have p1 := List.mergeSort_perm xs dLe
  have p2 := List.mergeSort_perm ys dLe
  refine List.Perm.eq_of_pairwise (le := fun a b => dLe a b = true) (fun a b hA hB h1 h2 => ?_) (sort_pairwise dLe_total xs) (sort_pairwise dLe_total ys) (p1.trans (hp.trans p2.symm))
  have ma := p1.mem_iff.mp hA
  have mb := hp.mem_iff.mpr (p2.mem_iff.mp hB)
  exact dLe_anti (hl a ma) (hl b mb) (ha a ma b mb) h1 h2
end Pv

set_option maxRecDepth 100000
/-! Pv.E: expressions follow the evaluator. -/
namespace Pv
open PySem PySem.Spec L2
section
variable {K : PySem.W.Frag} {W : Ws} {α β : Type} {c c' : Gh} {σ : St} {H H' : Hp} {st : S}
theorem Sat.imp {r : R α} {rel : Gh → α → β → Prop} {Q Q' : β → Hp → Prop} (h : Sat K W c σ r rel Q) (k : ∀ b H, Q b H → Q' b H) : Sat K W c σ r rel Q' := by
  cases r with
  | ok a s => exact fun c' b H' l A q => k _ _ (h c' b H' l A q)
  | ex x s => exact h
  | no => exact h
theorem Post.imp {z : D} {Q Q' : VK} (h : Post K c H z Q) (k : ∀ b H, Q b H → Q' b H) : Post K c H z Q' := by
  cases z with
  | lst ds => exact fun p xs a b d => k _ _ (h p xs a b d)
  | tup ds => exact ⟨fun v r => k _ _ (h.1 v r), fun p xs a b d => k _ _ (h.2 p xs a b d)⟩
  | _ => exact fun v r => k _ _ (h v r)
theorem SatF.imp {r : R D} {Q Q' : VK} (h : SatF K W c σ r Q) (k : ∀ b H, Q b H → Q' b H) : SatF K W c σ r Q' := by
  cases r with
  | ok a s => exact fun c' H' l A => (h c' H' l A).imp k
  | ex x s => exact h
  | no => exact h
theorem Sat.pure {a : α} {rel : Gh → α → β → Prop} {Q : β → Hp → Prop} (h : Sat K W c σ ((Pure.pure a : M α) st) rel Q) : Sat K W c σ (.ok a st) rel Q := h
/-- one part behind another, as readings -/
theorem tP_in {f : M P} {g : P → S → R D} {Q : VK} {Q' : VK} (A : Abs K c st σ H) (h : SatF K W c σ ((f st).bind g) Q)
    (k : ∀ v H1 st1 c1 p, Le c c1 → Abs K c1 st1 σ H1 → relP K σ c1 p v → SatF K W c1 σ (g p st1) Q → Q' v H1) : tP K W f σ H Q' :=
  ⟨st, c, A, (SatF.bind (relP K σ) h).imp fun v H1 ⟨st1, c1, p, l, A1, r, h1⟩ => k v H1 st1 c1 p l A1 r h1⟩
theorem tD_in {f : M D} {g : D → S → R D} {Q : VK} {Q' : VK} (A : Abs K c st σ H) (h : SatF K W c σ ((f st).bind g) Q)
    (k : ∀ v H1 st1 c1 d, Le c c1 → Abs K c1 st1 σ H1 → Rp K c1 d v → SatF K W c1 σ (g d st1) Q → Q' v H1) : tD K W f σ H Q' :=
  ⟨st, c, A, (SatF.bind (Rp K) h).imp fun v H1 ⟨st1, c1, d, l, A1, r, h1⟩ => k v H1 st1 c1 d l A1 r h1⟩
theorem tDs_in {f : M (List D)} {g : List D → S → R D} {Q : VK} {Q' : List V → Hp → Prop} (A : Abs K c st σ H) (h : SatF K W c σ ((f st).bind g) Q)
    (k : ∀ vs H1 st1 c1 ds, Le c c1 → Abs K c1 st1 σ H1 → RpL K c1 ds vs → SatF K W c1 σ (g ds st1) Q → Q' vs H1) : tDs K W f σ H Q' :=
  ⟨st, c, A, (SatF.bind (RpL K) h).imp fun v H1 ⟨st1, c1, d, l, A1, r, h1⟩ => k v H1 st1 c1 d l A1 r h1⟩
theorem tPs_in {f : M (List P)} {g : List P → S → R D} {Q : VK} {Q' : List V → Hp → Prop} (A : Abs K c st σ H) (h : SatF K W c σ ((f st).bind g) Q)
    (k : ∀ vs H1 st1 c1 ds, Le c c1 → Abs K c1 st1 σ H1 → relPs K σ c1 ds vs → SatF K W c1 σ (g ds st1) Q → Q' vs H1) : tPs K W f σ H Q' :=
  ⟨st, c, A, (SatF.bind (relPs K σ) h).imp fun v H1 ⟨st1, c1, d, l, A1, r, h1⟩ => k v H1 st1 c1 d l A1 r h1⟩
/-- the same ahead of anything -/
theorem tD_on {f : M D} {g : D → S → R α} {rel : Gh → α → β → Prop} {Q : β → Hp → Prop} {Q' : VK} (A : Abs K c st σ H) (h : Sat K W c σ ((f st).bind g) rel Q)
    (k : ∀ v H1 st1 c1 d, Le c c1 → Abs K c1 st1 σ H1 → Rp K c1 d v → Sat K W c1 σ (g d st1) rel Q → Q' v H1) : tD K W f σ H Q' :=
  ⟨st, c, A, (Sat.bind (Rp K) h).imp fun v H1 ⟨st1, c1, d, l, A1, r, h1⟩ => k v H1 st1 c1 d l A1 r h1⟩
theorem tP_on {f : M P} {g : P → S → R α} {rel : Gh → α → β → Prop} {Q : β → Hp → Prop} {Q' : VK} (A : Abs K c st σ H) (h : Sat K W c σ ((f st).bind g) rel Q)
    (k : ∀ v H1 st1 c1 d, Le c c1 → Abs K c1 st1 σ H1 → relP K σ c1 d v → Sat K W c1 σ (g d st1) rel Q → Q' v H1) : tP K W f σ H Q' :=
  ⟨st, c, A, (Sat.bind (relP K σ) h).imp fun v H1 ⟨st1, c1, d, l, A1, r, h1⟩ => k v H1 st1 c1 d l A1 r h1⟩
theorem tT_on {f : M Bool} {g : Bool → S → R α} {rel : Gh → α → β → Prop} {Q : β → Hp → Prop} {Q' : Bool → Hp → Prop} (A : Abs K c st σ H) (h : Sat K W c σ ((f st).bind g) rel Q)
    (k : ∀ v H1 st1 c1, Le c c1 → Abs K c1 st1 σ H1 → Sat K W c1 σ (g v st1) rel Q → Q' v H1) : tT K W f σ H Q' :=
  ⟨st, c, A, (Sat.bind (fun _ b k => b = k) h).imp fun v H1 ⟨st1, c1, d, l, A1, r, h1⟩ => by subst r; exact k d H1 st1 c1 l A1 h1⟩
theorem tT_in {f : M Bool} {g : Bool → S → R D} {Q : VK} {Q' : Bool → Hp → Prop} (A : Abs K c st σ H) (h : SatF K W c σ ((f st).bind g) Q)
    (k : ∀ v H1 st1 c1, Le c c1 → Abs K c1 st1 σ H1 → SatF K W c1 σ (g v st1) Q → Q' v H1) : tT K W f σ H Q' :=
  ⟨st, c, A, (SatF.bind (fun _ b k => b = k) h).imp fun v H1 ⟨st1, c1, d, l, A1, r, h1⟩ => by subst r; exact k d H1 st1 c1 l A1 h1⟩
end

section
variable {X : Cx} {W : Ws} {pos : Pos} {e a b : Expr}
/-! ### names -/
theorem rl_loc {i : Nat} {x : Str} (hN : X.N[i]? = some x) (hv : Vis X.env.scope x) (hd : (x == ("__debug__" : Str)) = false) (hcd : (x == ("__classdict__" : Str)) = false) :
    PE X (.Name x pos) (tD X.K W (rdF i)) := by
  refine PE.imp (pe_var hN hv hd hcd) fun σ H Q ⟨st, c, A, h⟩ => ?_
  unfold rdF at h
  split at h
  · rename_i d e
    obtain ⟨v, e2, r⟩ := A.sl i _ e
    exact ⟨v, e2, h.now A r⟩
  · rename_i d e
    obtain ⟨c2, v, l, A2, e2, r⟩ := A.freeze e
    exact ⟨v, e2, h.at l A2 r⟩
  · exact h.elim
theorem rl_peek {i : Nat} {x : Str} {m : M D} (hN : X.N[i]? = some x) (hv : Vis X.env.scope x) (hd : (x == ("__debug__" : Str)) = false) (hcd : (x == ("__classdict__" : Str)) = false) :
    PE X (.Name x pos) (tP X.K W (peek (some i) m)) := by
  refine PE.imp (pe_var hN hv hd hcd) fun σ H Q ⟨st, c, A, h⟩ => ?_
  unfold peek at h
  simp only at h
  split at h
  · rename_i d e
    obtain ⟨v, e2, r⟩ := A.sl i _ e
    exact ⟨v, e2, h.now A e2⟩
  · rename_i d e
    obtain ⟨p, e2, r⟩ := A.sl i _ e
    exact ⟨_, e2, h.now A e2⟩
  · exact h.elim
theorem rl_peekN {m : M D} (h : PE X e (tD X.K W m)) : PE X e (tP X.K W (peek none m)) := by
  refine PE.imp h fun σ H Q ⟨st, c, A, h⟩ => ?_
  exact tD_on A (show Sat X.K W c σ ((m st).bind fun d s => (.ok (.dv d) s : R P)) _ Q from h) fun v H1 st1 c1 d l A1 r h1 => h1.now A1 r
/-! ### constants -/
theorem rl_int {i j} : PE X (.Constant (.int i) j pos) (tD X.K W (Pure.pure (.int i))) := PE.imp pe_int fun σ H Q ⟨st, c, A, h⟩ => (Sat.pure h).now A (by simp only [Rp])
theorem rl_bl {i j} : PE X (.Constant (.bool i) j pos) (tD X.K W (Pure.pure (.bl i))) := PE.imp pe_bl fun σ H Q ⟨st, c, A, h⟩ => (Sat.pure h).now A (by simp only [Rp])
theorem rl_str {i j} : PE X (.Constant (.str i) j pos) (tD X.K W (Pure.pure (.str i))) := PE.imp pe_str fun σ H Q ⟨st, c, A, h⟩ => (Sat.pure h).now A (by simp only [Rp])
theorem rl_non {j} : PE X (.Constant .none j pos) (tD X.K W (Pure.pure .non)) := PE.imp pe_non fun σ H Q ⟨st, c, A, h⟩ => (Sat.pure h).now A (by simp only [Rp])
/-- a constant of the module -/
theorem rl_glob {x : Str} {d : D} {v : V} {u : Value} {o : Option D} (ho : ∀ z, o = some z → z = d) (hg : Gl X x) (hm : X.mg x = some u) (r : RelV v u) (hr : ∀ c, Rp X.K c d v) (hd : (x == ("__debug__" : Str)) = false) : PE X (.Name x pos) (tD X.K W (ofO o)) := by
  refine PE.imp (pe_glob hg hm r hd) fun σ H Q ⟨st, c, A, h⟩ => ?_
  obtain ⟨a, e, h2⟩ := h.ofO
  cases ho a e
  exact h2.now A (hr c)
/-! ### displays -/
variable {es : List Expr}
theorem ra_nil {f : M (List D)} (hf : ∀ s, f s = .ok [] s) : PA X [] (tDs X.K W f) := PA.imp pa_nil fun σ H Q ⟨st, c, A, h⟩ => by
  rw [hf] at h
  exact h.now A RpL.nil
theorem ra_cons {f : M D} {g : M (List D)} (h1 : PE X e (tD X.K W f)) (h2 : PA X es (tDs X.K W g)) (hs : starEach (e :: es) X.env = (false, eval e X.env) :: starEach es X.env) :
    PA X (e :: es) (tDs X.K W (f >>= fun d => g >>= fun ds => Pure.pure (d :: ds))) := by
  refine PA.imp (pa_cons h1 h2 hs) fun σ H Q ⟨st, c, A, h⟩ => ?_
  refine tD_on A h fun v H1 st1 c1 d l1 A1 r1 h1 => ?_
  refine ⟨st1, c1, A1, (Sat.bind (RpL X.K) h1).imp fun vs H2 ⟨st2, c2, ds, l2, A2, r2, h2⟩ => ?_⟩
  exact Sat.now (show Sat X.K W c2 σ (.ok (d :: ds) st2) _ _ from h2) A2 (RpL.cons (r1.mono l2 _ _) r2)
theorem rl_tup {f : M (List D)} {k : Nat} (ha : PA X es (tDs X.K W f)) : PE X (.Tuple es k pos) (tF X.K W (f >>= fun ds => ofO (mkT ds))) := by
  refine PE.imp (pe_tup ha) fun σ H Q ⟨st, c, A, h⟩ => ?_
  refine tDs_in A h fun vs H1 st1 c1 ds l1 A1 r1 h1 => ?_
  obtain ⟨z, e, h2⟩ := h1.ofO
  obtain ⟨rfl, hl⟩ := mkT_some e
  have hl' : vs.length ≤ sizeLine := r1.length ▸ hl
  exact ⟨hl', fun p hp => (h2.now A1).2 p vs hp r1 hl'⟩
theorem rl_lst {f : M (List D)} (ha : PA X es (tDs X.K W f)) : PE X (.List es pos) (tF X.K W (f >>= fun ds => ofO (mkL ds))) := by
  refine PE.imp (pe_lst ha) fun σ H Q ⟨st, c, A, h⟩ => ?_
  refine tDs_in A h fun vs H1 st1 c1 ds l1 A1 r1 h1 => ?_
  obtain ⟨z, e, h2⟩ := h1.ofO
  obtain ⟨rfl, hl⟩ := mkL_some e
  have hl' : vs.length ≤ sizeLine := r1.length ▸ hl
  exact ⟨hl', fun p hp => h2.now A1 p vs hp r1 hl'⟩
theorem shlM_ap (ds : List D) (s : S) : shlM ds s = if lenOk ds then .ok (.ref s.sh.length) { s with sh := s.sh ++ [.lst ds] } else .no := rfl
/-- a list that is shared from now on -/
theorem rl_shl {f : M (List D)} (ha : PA X es (tDs X.K W f)) :
    PE X (.List es pos) (tD X.K W (f >>= shlM)) := by
  refine PE.imp (pe_lst ha) fun σ H Q ⟨st, c, A, h⟩ => ?_
  refine ⟨st, c, A, (Sat.bind (RpL X.K) (show Sat X.K W c σ ((f st).bind _) _ Q from h)).imp fun vs H1 ⟨st1, c1, ds, l1, A1, r1, h1⟩ => ?_⟩
  rw [shlM_ap] at h1
  by_cases hl : lenOk ds = true
  · rw [if_pos hl] at h1
    have hl' : vs.length ≤ sizeLine := r1.length ▸ lenOk_le hl
    refine ⟨hl', fun p hp => ?_⟩
    have q : OwnAt X.K c1 (upd H1 p (.lst vs)) p (.lst ds) := ⟨A1.fN hp, A1.bN hp, vs, upd_same, r1⟩
    obtain ⟨A2, l2, r2⟩ := (A1.new hp).shNew q (A1.noOwn_new hp)
    exact h1.at l2 A2 r2
  · rw [if_neg hl] at h1
    exact h1.elim
/-! ### operators -/
theorem rl_bin {op : Operator} {fa fb : M P} (ha : PE X a (tP X.K W fa)) (hb : PE X b (tP X.K W fb)) :
    PE X (.BinOp a op b pos) (tF X.K W (fa >>= fun p => fb >>= fun q => getP p >>= fun x => getP q >>= fun y => ofO (binD op x y))) := by
  refine PE.imp (pe_op (op_bin op) ha hb) fun σ H Q ⟨st, c, A, h⟩ => ?_
  refine tP_in A h fun x H1 st1 c1 p l1 A1 r1 h1 => ?_
  refine tP_in A1 h1 fun y H2 st2 c2 q l2 A2 r2 h2 => ?_
  obtain ⟨d, ed, h3⟩ := h2.getP
  obtain ⟨e, ee, h4⟩ := h3.getP
  obtain ⟨z, ez, h5⟩ := h4.ofO
  exact ⟨c2, d, e, z, A2.fH, (r1.mono l2).view A2 ed, r2.view A2 ee, ez, h5.now A2⟩
theorem rl_neg {f : M D} (ha : PE X a (tD X.K W f)) : PE X (.UnaryOp .USub a pos) (tD X.K W (f >>= negM)) := by
  refine PE.imp (pe_un un_neg ha) fun σ H Q ⟨st, c, A, h⟩ => ?_
  refine tD_on A h fun v H1 st1 c1 d l1 A1 r1 h1 => ?_
  cases d with
  | int i => exact ⟨i, by simpa only [Rp] using r1, (Sat.pure h1).now A1 (by simp only [Rp])⟩
  | _ => exact h1.elim
theorem rl_inv {f : M D} (ha : PE X a (tD X.K W f)) : PE X (.UnaryOp .Invert a pos) (tD X.K W (f >>= invM)) := by
  refine PE.imp (pe_un un_inv ha) fun σ H Q ⟨st, c, A, h⟩ => ?_
  refine tD_on A h fun v H1 st1 c1 d l1 A1 r1 h1 => ?_
  cases d with
  | int i => exact ⟨i, by simpa only [Rp] using r1, (Sat.pure h1).now A1 (by simp only [Rp])⟩
  | _ => exact h1.elim
theorem rl_cmp (hu : X.A.units + 64 < cLine) {op : CmpOp} {fa fb : M P} (ha : PE X a (tP X.K W fa)) (hb : PE X b (tP X.K W fb)) (hm : behindInMarks op b = false) :
    PE X (.Compare a [op] [b] pos) (tD X.K W (fa >>= fun p => fb >>= fun q => getP p >>= fun x => getP q >>= fun y => ofO ((cmpD op x y).map .bl))) := by
  refine PE.imp (pe_cmpR (op_cmp hu op) ha hb hm) fun σ H Q ⟨st, c, A, h⟩ => ?_
  refine tP_on A h fun x H1 st1 c1 p l1 A1 r1 h1 => ?_
  refine tP_on A1 h1 fun y H2 st2 c2 q l2 A2 r2 h2 => ?_
  obtain ⟨d, ed, h3⟩ := h2.getP
  obtain ⟨e, ee, h4⟩ := h3.getP
  obtain ⟨z, ez, h5⟩ := h4.ofO
  obtain ⟨k, ek, rfl⟩ := map_some ez
  exact ⟨c2, d, e, k, A2.fH, (r1.mono l2).view A2 ed, r2.view A2 ee, ek, h5.now A2 (by simp only [Rp])⟩
theorem rl_cmpT (hu : X.A.units + 64 < cLine) {op : CmpOp} {fa fb : M P} (ha : PE X a (tP X.K W fa)) (hb : PE X b (tP X.K W fb)) (hm : behindInMarks op b = false) :
    PT X (.Compare a [op] [b] pos) (tT X.K W ((fa >>= fun p => fb >>= fun q => getP p >>= fun x => getP q >>= fun y => ofO ((cmpD op x y).map .bl)) >>= asBl)) := by
  refine PT.imp (pt_cmpR (op_cmp hu op) ha hb hm) fun σ H Q ⟨st, c, A, h⟩ => ?_
  have h0 : Sat X.K W c σ ((fa st).bind fun p s => (fb s).bind fun q s => (getP p s).bind fun x s => (getP q s).bind fun y s => (ofO ((cmpD op x y).map .bl) s).bind asBl) (fun _ b k => b = k) Q := by
    have e : ((fa >>= fun p => fb >>= fun q => getP p >>= fun x => getP q >>= fun y => ofO ((cmpD op x y).map .bl)) >>= asBl) st = (fa st).bind fun p s => (fb s).bind fun q s => (getP p s).bind fun x s => (getP q s).bind fun y s => (ofO ((cmpD op x y).map .bl) s).bind asBl := by
      simp only [M.bind_ap]
      cases fa st with
      | ok p s =>
        simp only [R.bind]
        cases fb s with
        | ok q s =>
          simp only []
          cases getP p s with
          | ok x s =>
            simp only []
            cases getP q s <;> rfl
          | ex x s => rfl
          | no => rfl
        | ex x s => rfl
        | no => rfl
      | ex x s => rfl
      | no => rfl
    exact e ▸ h
  refine tP_on A h0 fun x H1 st1 c1 p l1 A1 r1 h1 => ?_
  refine tP_on A1 h1 fun y H2 st2 c2 q l2 A2 r2 h2 => ?_
  obtain ⟨d, ed, h3⟩ := h2.getP
  obtain ⟨e, ee, h4⟩ := h3.getP
  cases ez : cmpD op d e with
  | none => rw [ez] at h4; exact h4.elim
  | some k =>
    rw [ez] at h4
    exact ⟨c2, d, e, k, A2.fH, (r1.mono l2).view A2 ed, r2.view A2 ee, ez, k, rfl, Sat.now (show Sat X.K W c2 σ (.ok k st2) _ Q from h4) A2 rfl⟩
/-! ### bools -/
theorem rl_notT {f : M Bool} {g : M Bool} (hg : ∀ st, g st = (f st).bind fun k s => .ok (!k) s) (ha : PT X a (tT X.K W f)) : PT X (.UnaryOp .Not a pos) (tT X.K W g) := by
  refine PT.imp (pt_not ha) fun σ H Q ⟨st, c, A, h⟩ => ?_
  rw [hg] at h
  exact tT_on A h fun k H1 st1 c1 l1 A1 h1 => h1.now A1 rfl
theorem R.bind_assoc {α β γ : Type} (r : R α) (f : α → S → R β) (g : β → S → R γ) : (r.bind f).bind g = r.bind fun a s => (f a s).bind g := by cases r <;> rfl
theorem asBl_bl (b : Bool) (s : S) : asBl (.bl b) s = .ok b s := rfl
/-- a test as the value -/
theorem rl_ofT {f : M D} {g : M Bool} (hf : ∀ st, f st = (g st).bind fun k s => .ok (.bl k) s) {t : TE} {u : TT} (h : PE X e t) (ht : ∀ σ H Q, u σ H (fun b H1 => Q (.bl b) H1) → t σ H Q)
    (hu : ∀ σ H Q, tT X.K W g σ H Q → u σ H Q) : PE X e (tD X.K W f) := by
  refine PE.imp h fun σ H Q ⟨st, c, A, h⟩ => ?_
  rw [hf] at h
  exact ht σ H Q (hu σ H _ (tT_on A h fun k H1 st1 c1 l1 A1 h1 => h1.now A1 (by simp only [Rp])))
theorem rl_not {f : M D} (ha : PE X a (tD X.K W f)) : PE X (.UnaryOp .Not a pos) (tD X.K W (f >>= asBl >>= fun b => Pure.pure (.bl (!b)))) := by
  refine PE.imp (pe_not ha) fun σ H Q ⟨st, c, A, h⟩ => ?_
  have h0 : Sat X.K W c σ ((f st).bind fun d s => (asBl d s).bind fun k s => (.ok (.bl (!k)) s : R D)) (Rp X.K) Q := by
    rw [← R.bind_assoc]; exact h
  refine tD_on A h0 fun v H1 st1 c1 d l1 A1 r1 h1 => ?_
  cases d with
  | bl k => exact ⟨k, by simpa only [Rp] using r1, (Sat.pure (a := D.bl (!k)) h1).now A1 (by simp only [Rp])⟩
  | _ => exact h1.elim
/-- the value of a test, as a test -/
theorem rl_val {f : M D} (ha : PE X a (tD X.K W f)) (he : ∀ whole, isTrue a X.env whole = (do let v ← whole; standAt a.pos; holding [v] (truthy v))) : PT X a (tT X.K W (f >>= asBl)) := by
  refine PT.imp (pt_val ha he) fun σ H Q ⟨st, c, A, h⟩ => ?_
  refine tD_on A (show Sat X.K W c σ ((f st).bind asBl) _ Q from h) fun v H1 st1 c1 d l1 A1 r1 h1 => ?_
  cases d with
  | bl k => exact ⟨k, by simpa only [Rp] using r1, (Sat.pure (a := k) h1).now A1 rfl⟩
  | _ => exact h1.elim
variable {rest : List Expr}
def andM (f g : M D) : M D := f >>= asBl >>= fun k => if k then g >>= asBl >>= fun k' => Pure.pure (.bl k') else Pure.pure (.bl false)
def orM (f g : M D) : M D := f >>= asBl >>= fun k => if k then Pure.pure (.bl true) else g >>= asBl >>= fun k' => Pure.pure (.bl k')
theorem bind_blBack {m : M D} (s : S) : ((m >>= asBl >>= fun k' => Pure.pure (D.bl k')) : M D) s = (m s).bind fun d s => (asBl d s).bind fun k s => .ok (.bl k) s := by
  show ((m s).bind asBl).bind _ = _
  rw [R.bind_assoc]
  rfl
theorem andM_ap (f g : M D) (s : S) : andM f g s = (f s).bind fun d s => (asBl d s).bind fun k s => if k then (g s).bind fun d s => (asBl d s).bind fun k s => .ok (.bl k) s else .ok (.bl false) s := by
  show ((f s).bind asBl).bind _ = _
  rw [R.bind_assoc]
  congr 1
  funext d s
  congr 1
  funext k s
  cases k
  · rfl
  · exact bind_blBack s
theorem orM_ap (f g : M D) (s : S) : orM f g s = (f s).bind fun d s => (asBl d s).bind fun k s => if k then .ok (.bl true) s else (g s).bind fun d s => (asBl d s).bind fun k s => .ok (.bl k) s := by
  show ((f s).bind asBl).bind _ = _
  rw [R.bind_assoc]
  congr 1
  funext d s
  congr 1
  funext k s
  cases k
  · exact bind_blBack s
  · rfl
theorem rl_and {f g : M D} (ha : PE X a (tD X.K W f)) (hb : PE X (.BoolOp .And (b :: rest) pos) (tD X.K W g)) : PE X (.BoolOp .And (a :: b :: rest) pos) (tD X.K W (andM f g)) := by
  refine PE.imp (pe_and ha hb) fun σ H Q ⟨st, c, A, h⟩ => ?_
  rw [andM_ap] at h
  refine tD_on A h fun v H1 st1 c1 d l1 A1 r1 h1 => ?_
  cases d with
  | bl k =>
    refine ⟨k, by simpa only [Rp] using r1, ?_⟩
    cases k with
    | true =>
      refine tD_on A1 (show Sat X.K W c1 σ ((g st1).bind fun d s => (asBl d s).bind fun k s => (.ok (.bl k) s : R D)) (Rp X.K) Q from h1) fun v H2 st2 c2 d l2 A2 r2 h2 => ?_
      cases d with
      | bl k => exact (Sat.pure (a := D.bl k) h2).now A2 r2
      | _ => exact h2.elim
    | false => exact (Sat.pure (a := D.bl false) h1).now A1 (by simp only [Rp])
  | _ => exact h1.elim
theorem rl_or {f g : M D} (ha : PE X a (tD X.K W f)) (hb : PE X (.BoolOp .Or (b :: rest) pos) (tD X.K W g)) : PE X (.BoolOp .Or (a :: b :: rest) pos) (tD X.K W (orM f g)) := by
  refine PE.imp (pe_or ha hb) fun σ H Q ⟨st, c, A, h⟩ => ?_
  rw [orM_ap] at h
  refine tD_on A h fun v H1 st1 c1 d l1 A1 r1 h1 => ?_
  cases d with
  | bl k =>
    refine ⟨k, by simpa only [Rp] using r1, ?_⟩
    cases k with
    | false =>
      refine tD_on A1 (show Sat X.K W c1 σ ((g st1).bind fun d s => (asBl d s).bind fun k s => (.ok (.bl k) s : R D)) (Rp X.K) Q from h1) fun v H2 st2 c2 d l2 A2 r2 h2 => ?_
      cases d with
      | bl k => exact (Sat.pure (a := D.bl k) h2).now A2 r2
      | _ => exact h2.elim
    | true => exact (Sat.pure (a := D.bl true) h1).now A1 (by simp only [Rp])
  | _ => exact h1.elim
/-- .. as tests: f, g tests -/
theorem rl_andT {f g h : M Bool} (hh : ∀ s, h s = (f s).bind fun k s => if k then g s else .ok false s) (ha : PT X a (tT X.K W f)) (hb : PW X (.BoolOp .And (b :: rest) pos) (tT X.K W g)) : PW X (.BoolOp .And (a :: b :: rest) pos) (tT X.K W h) := by
  refine PW.imp (pw_and ha hb) fun σ H Q ⟨st, c, A, h⟩ => ?_
  rw [hh] at h
  refine tT_on A h fun k H1 st1 c1 l1 A1 h1 => ?_
  cases k with
  | true => exact ⟨st1, c1, A1, h1⟩
  | false => exact (Sat.pure (a := false) h1).now A1 rfl
theorem rl_orT {f g h : M Bool} (hh : ∀ s, h s = (f s).bind fun k s => if k then .ok true s else g s) (ha : PT X a (tT X.K W f)) (hb : PW X (.BoolOp .Or (b :: rest) pos) (tT X.K W g)) : PW X (.BoolOp .Or (a :: b :: rest) pos) (tT X.K W h) := by
  refine PW.imp (pw_or ha hb) fun σ H Q ⟨st, c, A, h⟩ => ?_
  rw [hh] at h
  refine tT_on A h fun k H1 st1 c1 l1 A1 h1 => ?_
  cases k with
  | false => exact ⟨st1, c1, A1, h1⟩
  | true => exact (Sat.pure (a := true) h1).now A1 rfl
theorem R.bind_ok_self {α : Type} (r : R α) : (r.bind fun a s => .ok a s) = r := by cases r <;> rfl
theorem blBack_asBl (r : R D) : ((r.bind fun d s => (asBl d s).bind fun k s => (.ok (.bl k) s : R D)).bind asBl) = r.bind asBl := by
  rw [R.bind_assoc]
  congr 1
  funext d s
  cases d <;> rfl
theorem andM_T (f g : M D) (s : S) : (andM f g >>= asBl) s = ((f >>= asBl) s).bind fun k s => if k then (g >>= asBl) s else .ok false s := by
  show (andM f g s).bind asBl = ((f s).bind asBl).bind _
  rw [andM_ap, R.bind_assoc, R.bind_assoc]
  congr 1
  funext d s
  rw [R.bind_assoc]
  congr 1
  funext k s
  cases k
  · rfl
  · exact blBack_asBl _
theorem orM_T (f g : M D) (s : S) : (orM f g >>= asBl) s = ((f >>= asBl) s).bind fun k s => if k then .ok true s else (g >>= asBl) s := by
  show (orM f g s).bind asBl = ((f s).bind asBl).bind _
  rw [orM_ap, R.bind_assoc, R.bind_assoc]
  congr 1
  funext d s
  rw [R.bind_assoc]
  congr 1
  funext k s
  cases k
  · exact blBack_asBl _
  · rfl
theorem notM_T (f : M D) (s : S) : ((f >>= asBl >>= fun b => (Pure.pure (.bl (!b)) : M D)) >>= asBl) s = ((f >>= asBl) s).bind fun k s => .ok (!k) s := by
  show ((((f s).bind asBl).bind _).bind asBl) = _
  rw [R.bind_assoc]
  rfl
/-- a op b op' c -/
def chainM (op op' : CmpOp) (f g h : M D) : M D := f >>= fun x => g >>= fun y => ofO (cmpD op x y) >>= fun k => if k then h >>= fun z => ofO ((cmpD op' y z).map .bl) else Pure.pure (.bl false)
theorem rl_chain (hu : X.A.units + 64 < cLine) {op op' : CmpOp} {c' : Expr} {f g h : M D} (ha : PE X a (tD X.K W f)) (hb : PE X b (tD X.K W g)) (hc : PE X c' (tD X.K W h)) (hm : lastMarks [op, op'] [b, c'] = false) :
    PE X (.Compare a [op, op'] [b, c'] pos) (tD X.K W (chainM op op' f g h)) := by
  refine PE.imp (pe_chain (op_cmp hu op) (op_cmp hu op') ha hb hc hm) fun σ H Q ⟨st, c, A, h⟩ => ?_
  refine tD_on A h fun x H1 st1 c1 d l1 A1 r1 h1 => ?_
  refine tD_on A1 h1 fun y H2 st2 c2 e l2 A2 r2 h2 => ?_
  have h2' : Sat X.K W c2 σ ((ofO (cmpD op d e) st2).bind fun k s => ((if k then _ else _ : M D) s)) (Rp X.K) Q := h2
  cases ek : cmpD op d e with
  | none => rw [ek] at h2'; exact h2'.elim
  | some k =>
    rw [ek] at h2'
    refine ⟨c2, d, e, k, A2.fH, .inl (r1.mono l2 _ _), .inl r2, ek, k, rfl, ?_⟩
    cases k with
    | false => exact (Sat.pure (a := D.bl false) h2').now A2 (by simp only [Rp])
    | true =>
      refine tD_on A2 h2' fun z H3 st3 c3 g l3 A3 r3 h3 => ?_
      obtain ⟨z', ez, h4⟩ := h3.ofO
      obtain ⟨k, ek', rfl⟩ := map_some ez
      exact ⟨c3, e, g, k, A3.fH, .inl (r2.mono l3 _ _), .inl r3, ek', h4.now A3 (by simp only [Rp])⟩
theorem rl_chainT (hu : X.A.units + 64 < cLine) {op op' : CmpOp} {c' : Expr} {f g m : M D} (ha : PE X a (tD X.K W f)) (hb : PE X b (tD X.K W g)) (hc : PE X c' (tD X.K W m)) (hm : lastMarks [op, op'] [b, c'] = false) :
    PT X (.Compare a [op, op'] [b, c'] pos) (tT X.K W (chainM op op' f g m >>= asBl)) := by
  refine PT.imp (pt_chain (op_cmp hu op) (op_cmp hu op') ha hb hc hm) fun σ H Q ⟨st, c, A, h⟩ => ?_
  have h : Sat X.K W c σ ((chainM op op' f g m st).bind asBl) (fun _ b k => b = k) Q := h
  have e0 : ∀ h : M D, (chainM op op' f g h st).bind asBl = (f st).bind fun x s => (g s).bind fun y s => ((ofO (cmpD op x y) s).bind fun k s => ((if k then h >>= fun z => ofO ((cmpD op' y z).map .bl) else Pure.pure (.bl false) : M D) s)).bind asBl := fun h => by
    show ((f st).bind _).bind asBl = _
    rw [R.bind_assoc]
    congr 1
    funext x s
    show ((g s).bind _).bind asBl = _
    rw [R.bind_assoc]
    rfl
  rw [e0] at h
  refine tD_on A h fun x H1 st1 c1 d l1 A1 r1 h1 => ?_
  refine tD_on A1 h1 fun y H2 st2 c2 e l2 A2 r2 h2 => ?_
  cases ek : cmpD op d e with
  | none => rw [ek] at h2; exact h2.elim
  | some k =>
    rw [ek] at h2
    refine ⟨c2, d, e, k, A2.fH, .inl (r1.mono l2 _ _), .inl r2, ek, k, rfl, ?_⟩
    cases k with
    | false => exact ⟨false, rfl, (Sat.pure (a := false) h2).now A2 rfl⟩
    | true =>
      have h2' : Sat X.K W c2 σ (((m st2).bind fun z => ofO ((cmpD op' e z).map .bl)).bind asBl) (fun _ b k => b = k) Q := h2
      rw [R.bind_assoc] at h2'
      refine tD_on A2 h2' fun z H3 st3 c3 g l3 A3 r3 h3 => ?_
      cases ez : cmpD op' e g with
      | none => rw [ez] at h3; exact h3.elim
      | some k =>
        rw [ez] at h3
        exact ⟨c3, e, g, k, A3.fH, .inl (r2.mono l3 _ _), .inl r3, ez, k, rfl, (Sat.pure (a := k) h3).now A3 rfl⟩
theorem rl_ite {c' : Expr} {f : M Bool} {g h : M D} (hc : PT X c' (tT X.K W f)) (ha : PE X a (tD X.K W g)) (hb : PE X b (tD X.K W h)) : PE X (.IfExp c' a b pos) (tD X.K W (f >>= fun k => if k then g else h)) := by
  refine PE.imp (pe_ifExp hc ha hb) fun σ H Q ⟨st, c, A, h⟩ => ?_
  refine tT_on A h fun k H1 st1 c1 l1 A1 h1 => ?_
  cases k with
  | true => exact ⟨st1, c1, A1, h1⟩
  | false => exact ⟨st1, c1, A1, h1⟩
/-! ### subscripts -/
theorem rl_idx (hu : X.A.units + 64 < cLine) {fa : M P} {f : M D} (ha : PE X a (tP X.K W fa)) (hb : PE X b (tD X.K W f)) (hs : PlainIx b) : PE X (.Subscript a b pos) (tD X.K W (fa >>= fun p => f >>= fun k => getP p >>= fun x => idxM x k)) := by
  refine PE.imp (pe_ix (ix_all hu) ha hb hs) fun σ H Q ⟨st, c, A, h⟩ => ?_
  refine tP_on A h fun x H1 st1 c1 p l1 A1 r1 h1 => ?_
  refine tD_on A1 h1 fun y H2 st2 c2 k l2 A2 r2 h2 => ?_
  obtain ⟨d, ed, h3⟩ := h2.getP
  have h3' : Sat X.K W c2 σ (ofO (idxD st2.sh d k) st2) (Rp X.K) Q := h3
  obtain ⟨z, ez, h4⟩ := h3'.ofO
  exact ⟨c2, st2, σ, d, k, z, A2, (r1.mono l2).view A2 ed, .inl r2, ez, fun w r => h4.now A2 r⟩
/-- a part of a slice -/
def tOi (K : PySem.W.Frag) (W : Ws) (f : M (Option Int)) : TO := fun σ H Q => ∃ st c, Abs K c st σ H ∧ Sat K W c σ (f st) (fun _ a b => a = b) Q
theorem PO.imp {o : Option Expr} {t t' : TO} (h : PO X o t) (k : ∀ σ H Q, t' σ H Q → t σ H Q) : PO X o t' := ⟨fun pins s σ H Q I q => h.run pins s σ H Q I (k σ H Q q)⟩
theorem ro_none {f : M (Option Int)} (hf : ∀ s, f s = .ok none s) : PO X none (tOi X.K W f) := PO.imp po_none fun σ H Q ⟨st, c, A, h⟩ => by
  rw [hf] at h
  exact h.now A rfl
theorem ro_some {f : M D} (he : PE X e (tD X.K W f)) : PO X (some e) (tOi X.K W (f >>= optM)) := by
  refine PO.imp (po_some he) fun σ H Q ⟨st, c, A, h⟩ => ?_
  refine tD_on A h fun v H1 st1 c1 d l1 A1 r1 h1 => ?_
  cases d with
  | int i => exact ⟨i, by simpa only [Rp] using r1, (Sat.pure (a := some i) h1).now A1 rfl⟩
  | _ => exact h1.elim
theorem rl_slc {lo hi : Option Expr} {p2 : Pos} {fa : M P} {fl fh : M (Option Int)} (ha : PE X a (tP X.K W fa)) (hl : PO X lo (tOi X.K W fl)) (hh : PO X hi (tOi X.K W fh)) :
    PE X (.Subscript a (.Slice lo hi none p2) pos) (tF X.K W (fa >>= fun p => fl >>= fun l => fh >>= fun h => getP p >>= fun x => ofO (slcD l h x))) := by
  refine PE.imp (pe_slice sl_all ha hl hh) fun σ H Q ⟨st, c, A, h⟩ => ?_
  refine tP_in A h fun x H1 st1 c1 p l1 A1 r1 h1 => ?_
  refine ⟨st1, c1, A1, (SatF.bind (fun _ a b => a = b) h1).imp fun l H2 ⟨st2, c2, l', l2, A2, r2, h2⟩ => ?_⟩
  subst r2
  refine ⟨st2, c2, A2, (SatF.bind (fun _ a b => a = b) h2).imp fun u H3 ⟨st3, c3, u', l3, A3, r3, h3⟩ => ?_⟩
  subst r3
  obtain ⟨d, ed, h4⟩ := h3.getP
  obtain ⟨z, ez, h5⟩ := h4.ofO
  exact ⟨c3, d, z, A3.fH, ((r1.mono l2).mono l3).view A3 ed, ez, h5.now A3⟩
theorem rl_rev {fa : M P} {k : Nat} {p1 p2 p3 : Pos} (ha : PE X a (tP X.K W fa)) : PE X (.Subscript a (.Slice none none (some (.UnaryOp .USub (.Constant (.int 1) k p1) p2)) p3) pos) (tF X.K W (fa >>= fun p => getP p >>= fun x => ofO (revD x))) := by
  refine PE.imp (pe_rev ha) fun σ H Q ⟨st, c, A, h⟩ => ?_
  refine tP_in A h fun x H1 st1 c1 p l1 A1 r1 h1 => ?_
  obtain ⟨d, ed, h4⟩ := h1.getP
  obtain ⟨z, ez, h5⟩ := h4.ofO
  exact ⟨c1, d, z, A1.fH, r1.view A1 ed, ez, h5.now A1⟩
/-! ### built-in functions -/
theorem rp_nil {f : M (List P)} (hf : ∀ s, f s = .ok [] s) : PA X [] (tPs X.K W f) := PA.imp pa_nil fun σ H Q ⟨st, c, A, h⟩ => by
  rw [hf] at h
  exact h.now A rfl
theorem rp_cons {f : M P} {g : M (List P)} (h1 : PE X e (tP X.K W f)) (h2 : PA X es (tPs X.K W g)) (hs : starEach (e :: es) X.env = (false, eval e X.env) :: starEach es X.env) :
    PA X (e :: es) (tPs X.K W (f >>= fun d => g >>= fun ds => Pure.pure (d :: ds))) := by
  refine PA.imp (pa_cons h1 h2 hs) fun σ H Q ⟨st, c, A, h⟩ => ?_
  refine tP_on A h fun v H1 st1 c1 d l1 A1 r1 h1 => ?_
  refine ⟨st1, c1, A1, (Sat.bind (relPs X.K σ) h1).imp fun vs H2 ⟨st2, c2, ds, l2, A2, r2, h2⟩ => ?_⟩
  exact (Sat.pure (a := d :: ds) h2).now A2 ⟨v, vs, rfl, r1.mono l2, r2⟩
/-- what a call of a built-in function asks -/
theorem tCB_bi {b : Bi} {f : M (List P)} {σ : St} {H : Hp} {Q : VK} (h : tF X.K W (f >>= fun ps => getPs ps >>= fun ds => ofO (biD b ds)) σ H Q) : tCB (rBi X.K b) (tPs X.K W f) σ H Q := by
  obtain ⟨st, c, A, h⟩ := h
  refine tPs_in A h fun vs H1 st1 c1 ps l1 A1 r1 h1 => ?_
  cases eg : getPs ps st1 with
  | ok ds s2 =>
    have h2 : SatF X.K W c1 σ ((getPs ps st1).bind fun ds => ofO (biD b ds)) Q := h1
    rw [eg] at h2
    obtain ⟨rfl, hv⟩ := getPs_ok (K := X.K) (c := c1) (σ := σ) (H := H1) eg
    obtain ⟨z, ez, h3⟩ := SatF.ofO (show SatF X.K W c1 σ (ofO (biD b ds) s2) Q from h2)
    exact ⟨c1, ds, z, A1.fH, hv r1 A1, ez, h3.now A1⟩
  | ex x s2 => exact (getPs_no_ex eg).elim
  | no =>
    have h2 : SatF X.K W c1 σ ((getPs ps st1).bind fun ds => ofO (biD b ds)) Q := h1
    rw [eg] at h2
    exact h2.elim
theorem rl_biB {b : Bi} {id : String} {x : Str} {p : Pos} {f : M (List P)} (hc : CallR X (.builtin id) (rBi X.K b)) (hg : Gl X x) (hm : X.mg x = none) (hv : bootBuiltins x = some (.builtin id)) (ha : PA X (e :: es) (tPs X.K W f)) (hn : x ≠ "__name__") (hdb : (x == ("__debug__" : Str)) = false)
    (he : starEach (e :: es) X.env = (false, eval e X.env) :: starEach es X.env) (hpl : (backTo pos (starEach es X.env)).any (·.1) = false) : PE X (.Call (.Name x p) (e :: es) [] pos) (tF X.K W (f >>= fun ps => getPs ps >>= fun ds => ofO (biD b ds))) :=
  PE.imp (pe_callB hc hg hm hv ha hn hdb he hpl) fun σ H Q h => tCB_bi h
theorem rl_biT {b : Bi} {id : String} {x : Str} {p : Pos} {f : M (List P)} (hc : CallR X (.type id) (rBi X.K b)) (hg : Gl X x) (hm : X.mg x = none) (hv : bootBuiltins x = some (.type id)) (ha : PA X (e :: es) (tPs X.K W f)) (hn : x ≠ "__name__") (hdb : (x == ("__debug__" : Str)) = false)
    (he : starEach (e :: es) X.env = (false, eval e X.env) :: starEach es X.env) (hpl : (backTo pos (starEach es X.env)).any (·.1) = false) : PE X (.Call (.Name x p) (e :: es) [] pos) (tF X.K W (f >>= fun ps => getPs ps >>= fun ds => ofO (biD b ds))) :=
  PE.imp (pe_callTy hc hg hm hv ha hn hdb he hpl) fun σ H Q h => tCB_bi h
end
end Pv

set_option maxRecDepth 100000
/-! Pv.Loop: what is walked, targets, comprehensions. -/
namespace Pv
open PySem PySem.Spec L2

section
variable {K : PySem.W.Frag} {c c' : Gh} {st : S} {σ σ' : St} {H H' : Hp}
/-- what stays is more; others may hold anything -/
structure LeF (c c' : Gh) : Prop where
  F : ∀ a o, c.F a = some o → c'.F a = some o
  am : ∃ t, c'.am = c.am ++ t
theorem Le.toF (h : Le c c') : LeF c c' := ⟨h.F, h.am⟩
theorem LeF.trans {a b d : Gh} (x : LeF a b) (y : LeF b d) : LeF a d :=
  ⟨fun i o e => y.F i o (x.F i o e), by
    obtain ⟨t, e⟩ := x.am
    obtain ⟨u, e2⟩ := y.am
    exact ⟨t ++ u, by rw [e2, e, List.append_assoc]⟩⟩
theorem Rp.monoF (h : LeF c c') {d : D} {v : V} (r : Rp K c d v) : Rp K c' d v := by
  have l : Le c ⟨c'.F, c.B, c'.am⟩ := ⟨h.F, rfl, h.am⟩
  exact Rp.ofB (F := c'.F) (am := c'.am) d v (r.mono l d v)
theorem RpL.monoF (h : LeF c c') {d : List D} {v : List V} (r : RpL K c d v) : RpL K c' d v := by
  have l : Le c ⟨c'.F, c.B, c'.am⟩ := ⟨h.F, rfl, h.am⟩
  exact RpL.ofB (F := c'.F) (am := c'.am) d v (r.mono l d v)
/-- other names, other values at them -/
theorem Abs.reslot (A : Abs K c st σ H) {sl' : List Sl} (hl : sl'.length = σ'.length)
    (h : ∀ (i : Nat) (t : Sl), sl'[i]? = some t → t = .un ∨ (st.sl[i]? = some t ∧ σ'[i]? = σ[i]?) ∨ ∃ d v, t = .fz d ∧ σ'[i]? = some (some v) ∧ Rp K c d v) : Abs K c { st with sl := sl' } σ' H := by
  have ow : ∀ a k, Owns { st with sl := sl' } σ' c a k → Owns st σ c a k := by
    intro a k o
    cases k with
    | inl i =>
      obtain ⟨⟨d, e⟩, e2⟩ := o
      rcases h i _ e with z | ⟨z, z2⟩ | ⟨d', v, z, _⟩
      · cases z
      · exact ⟨⟨d, z⟩, z2 ▸ e2⟩
      · cases z
    | inr n => exact o
  refine ⟨A.fH, A.bH, A.fB, hl, fun i t e => ?_, A.shl, A.sh, fun a k k' x y => A.uq a k k' (ow a k x) (ow a k' y)⟩
  rcases h i t e with rfl | ⟨z, z2⟩ | ⟨d, v, rfl, z, r⟩
  · trivial
  · rw [z2]; exact A.sl i t z
  · exact ⟨v, z, r⟩
/-- an address that nobody knows is taken out -/
def outH (H : Hp) (a : Addr) : Hp := fun b => if b = a then none else H b
theorem outH_ne {a b : Addr} (h : b ≠ a) : outH H a b = H b := if_neg h
theorem outH_upd {a : Addr} {o : HO} (h : H a = some o) : upd (outH H a) a o = H := by
  funext b
  by_cases e : b = a
  · subst e; rw [upd_same, h]
  · rw [upd_ne e, outH_ne e]
theorem Abs.out (A : Abs K c st σ H) {a : Addr} (hf : c.F a = none) (hb : c.B a = none) (hn : NoOwn st σ c a) : Abs K c st σ (outH H a) := by
  have ne : ∀ b (k : Sum Nat Nat), Owns st σ c b k → b ≠ a := fun b k o e => hn k (e ▸ o)
  refine ⟨fun b o e => ?_, fun b o e => ?_, A.fB, A.len, fun i t e => ?_, A.shl, fun n d e => ?_, A.uq⟩
  · rw [outH_ne (fun z => by subst z; rw [hf] at e; cases e)]; exact A.fH b o e
  · rw [outH_ne (fun z => by subst z; rw [hb] at e; cases e)]; exact A.bH b o e
  · have q := A.sl i t e
    cases t with
    | un => trivial
    | fz d => exact q
    | ow d =>
      obtain ⟨b, e2, o⟩ := q
      exact ⟨b, e2, o.to (outH_ne (ne b (.inl i) ⟨⟨d, e⟩, e2⟩))⟩
  · obtain ⟨b, e2, o⟩ := A.sh n d e
    exact ⟨b, e2, o.to (outH_ne (ne b (.inr n) e2))⟩
/-! ### names wiped, names back -/
theorem set_get {α : Type} {l : List α} {i j : Nat} {x t : α} (h : (l.set i x)[j]? = some t) : (j = i ∧ t = x ∧ i < l.length) ∨ (j ≠ i ∧ l[j]? = some t) := by
  by_cases e : i = j
  · subst e
    by_cases hl : i < l.length
    · rw [List.getElem?_set_self hl] at h
      cases h
      exact .inl ⟨rfl, rfl, hl⟩
    · rw [List.getElem?_eq_none (by simpa using hl)] at h
      cases h
  · rw [List.getElem?_set_ne e] at h
    exact .inr ⟨fun z => e z.symm, h⟩
theorem wipeS_get {sl : List Sl} : ∀ {vs : List Nat} {i : Nat} {t : Sl}, (wipeS sl vs)[i]? = some t → t = .un ∨ (i ∉ vs ∧ sl[i]? = some t)
  | [], i, t, h => .inr ⟨by simp, h⟩
  | v :: vs, i, t, h => by
    rcases set_get (show ((wipeS sl vs).set v .un)[i]? = some t from h) with ⟨_, e, _⟩ | ⟨ne, e⟩
    · exact .inl e
    · rcases wipeS_get e with z | ⟨z, z2⟩
      · exact .inl z
      · exact .inr ⟨by simp [ne, z], z2⟩
theorem wipeS_length (sl : List Sl) : ∀ vs : List Nat, (wipeS sl vs).length = sl.length
  | [] => rfl
  | v :: vs => by
    show ((wipeS sl vs).set v .un).length = _
    rw [List.length_set, wipeS_length sl vs]
theorem backS_get {old new : List Sl} : ∀ {vs : List Nat} {i : Nat} {t : Sl}, (backS old new vs)[i]? = some t → (i ∈ vs ∧ t = old.getD i .un) ∨ (i ∉ vs ∧ new[i]? = some t)
  | [], i, t, h => .inr ⟨by simp, h⟩
  | v :: vs, i, t, h => by
    rcases set_get (show ((backS old new vs).set v (old.getD v .un))[i]? = some t from h) with ⟨e1, e, _⟩ | ⟨ne, e⟩
    · subst e1
      exact .inl ⟨by simp, e⟩
    · rcases backS_get e with ⟨z, z2⟩ | ⟨z, z2⟩
      · exact .inl ⟨by simp [z], z2⟩
      · exact .inr ⟨by simp [ne, z], z2⟩
theorem backS_length (old new : List Sl) : ∀ vs : List Nat, (backS old new vs).length = new.length
  | [] => rfl
  | v :: vs => by
    show ((backS old new vs).set v _).length = _
    rw [List.length_set, backS_length old new vs]
theorem Abs.wiped (A : Abs K c st σ H) (vs : List Nat) : Abs K c { st with sl := wipeS st.sl vs } (wipe σ vs) H :=
  A.reslot (by rw [wipeS_length, wipe_length]; exact A.len) fun i t e => by
    rcases wipeS_get e with z | ⟨z, z2⟩
    · exact .inl z
    · exact .inr (.inl ⟨z2, wipe_out z⟩)
theorem NoOwn.wiped {a : Addr} (h : NoOwn st σ c a) (vs : List Nat) : NoOwn { st with sl := wipeS st.sl vs } (wipe σ vs) c a := by
  intro k o
  cases k with
  | inl i =>
    obtain ⟨⟨d, e⟩, e2⟩ := o
    rcases wipeS_get e with z | ⟨z, z2⟩
    · cases z
    · exact h (.inl i) ⟨⟨d, z2⟩, by rw [← wipe_out z]; exact e2⟩
  | inr n => exact h (.inr n) o
theorem NoOwn.leF {a : Addr} {c2 : Gh} (h : NoOwn st σ c a) (e : c2.am = c.am) : NoOwn st σ c2 a := by
  intro k o
  cases k with
  | inl i => exact h (.inl i) o
  | inr n => exact h (.inr n) (by show c.am[n]? = some a; rw [← e]; exact o)
theorem noOwn_at {sl : List Sl} {vs : List Nat} (h : noOwn sl vs = true) {i : Nat} (hi : i ∈ vs) : ∃ t, sl[i]? = some t ∧ ∀ d, t ≠ .ow d := by
  have q := List.all_eq_true.mp h i hi
  revert q
  cases e : sl[i]? with
  | none => intro q; simp at q
  | some t =>
    cases t with
    | ow d => intro q; simp at q
    | un => intro q; exact ⟨_, rfl, fun d z => nomatch z⟩
    | fz d => intro q; exact ⟨_, rfl, fun d z => nomatch z⟩
/-- behind a block -/
theorem Abs.back {st0 : S} {c0 : Gh} {H0 : Hp} {vs : List Nat} (A : Abs K c { st with sl := wipeS st.sl vs } (wipe σ vs) H) (A0 : Abs K c0 st0 σ H0) (l : LeF c0 c) (hn : noOwn st0.sl vs = true) (hl : st.sl.length = σ.length) :
    Abs K c { st with sl := backS st0.sl st.sl vs } σ H := by
  refine A.reslot (sl' := backS st0.sl st.sl vs) (by rw [backS_length]; exact hl) fun i t e => ?_
  rcases backS_get e with ⟨z, rfl⟩ | ⟨z, z2⟩
  · obtain ⟨t, e1, e2⟩ := noOwn_at hn z
    have e3 : st0.sl.getD i .un = t := by rw [List.getD_eq_getElem?_getD, e1]; rfl
    rw [e3]
    cases t with
    | un => exact .inl rfl
    | ow d => exact (e2 d rfl).elim
    | fz d =>
      obtain ⟨v, e4, r⟩ := A0.sl i _ e1
      exact .inr (.inr ⟨d, v, rfl, e4, r.monoF l⟩)
  · refine .inr (.inl ⟨?_, (wipe_out z).symm⟩)
    have : (wipeS st.sl vs)[i]? = some t := by
      rw [wipeS_out z]; exact z2
    exact this
where
  wipeS_out {sl : List Sl} : ∀ {vs : List Nat} {i : Nat}, i ∉ vs → (wipeS sl vs)[i]? = sl[i]?
    | [], i, _ => rfl
    | v :: vs, i, h => by
      have h1 : v ≠ i := fun z => h (by simp [z])
      have h2 : i ∉ vs := fun z => h (by simp [z])
      show ((wipeS sl vs).set v .un)[i]? = _
      rw [List.getElem?_set_ne h1, wipeS_out h2]
end

/-! ### targets -/
mutual
def Tg.vars : Tg → List Nat
  | .nm i => [i]
  | .tp ts => Tg.varsL ts
def Tg.varsL : List Tg → List Nat
  | [] => []
  | t :: ts => Tg.vars t ++ Tg.varsL ts
end
/-- only these names have other values -/
structure Same (vs : List Nat) (σ σ' : St) : Prop where
  len : σ'.length = σ.length
  at_ : ∀ i, i ∉ vs → σ'[i]? = σ[i]?
theorem Same.wipe {vs ws : List Nat} {σ σ' : St} (h : Same vs σ σ') (hs : ∀ i ∈ vs, i ∈ ws) : wipe σ' ws = wipe σ ws := by
  apply List.ext_getElem?
  intro i
  by_cases hi : i ∈ ws
  · have get : ∀ (σ : St) (ws : List Nat), i ∈ ws → (L2.wipe σ ws)[i]? = if i < σ.length then some none else none := by
      intro σ ws
      induction ws with
      | nil => intro h; simp at h
      | cons v vs ih =>
        intro h
        show ((L2.wipe σ vs).set v none)[i]? = _
        by_cases e : v = i
        · subst e
          by_cases hl : v < σ.length
          · rw [List.getElem?_set_self (by rw [wipe_length]; exact hl), if_pos hl]
          · rw [if_neg hl, List.getElem?_eq_none (by rw [List.length_set, wipe_length]; omega)]
        · rw [List.getElem?_set_ne e]
          exact ih (by
            rcases List.mem_cons.mp h with z | z
            · exact (e z.symm).elim
            · exact z)
    rw [get σ' ws hi, get σ ws hi, h.len]
  · rw [wipe_out hi, wipe_out hi, h.at_ i (fun z => hi (hs i z))]
theorem wipe_wipe (σ : St) (ws : List Nat) : wipe (wipe σ ws) ws = wipe σ ws :=
  Same.wipe (vs := ws) ⟨wipe_length _ _, fun i hi => wipe_out hi⟩ fun _ h => h
/-- a target's reading -/
def gTg (K : PySem.W.Frag) (t : Tg) : TG := fun v σ H Q => ∃ c st d sl', Abs K c st σ H ∧ Rp K c d v ∧ bindT t d st.sl = some sl' ∧ ∀ σ', Same t.vars σ σ' → Abs K c { st with sl := sl' } σ' H → Q σ' H
def gTgs (K : PySem.W.Frag) (ts : List Tg) : TGs := fun vs σ H Q => ∃ c st ds sl', Abs K c st σ H ∧ RpL K c ds vs ∧ bindTs ts ds st.sl = some sl' ∧ ∀ σ', Same (Tg.varsL ts) σ σ' → Abs K c { st with sl := sl' } σ' H → Q σ' H
section
variable {X : Cx} {pos : Pos}
theorem rg_name {i : Nat} {x : Str} (hN : X.N.Nodup) (hi : X.N[i]? = some x) (hx : Loc X.env.scope x) (hf : X.fn x = true ∨ X.env.scope.names.lookup x = some .local) : PG X (.Name x pos) (gTg X.K (.nm i)) := by
  refine PG.imp (pg_name hN hi hx hf) fun v σ H Q ⟨c, st, d, sl', A, r, e, q⟩ => ?_
  unfold bindT at e
  split at e
  · rename_i hl
    cases e
    exact q _ ⟨by rw [List.length_set], fun j hj => List.getElem?_set_ne (fun z => hj (by simp [Tg.vars, z]))⟩ (A.setFz hl r)
  · cases e
theorem rg_nil : PGs X [] (gTgs X.K []) := by
  refine PGs.imp pgs_nil fun v σ H Q ⟨c, st, ds, sl', A, r, e, q⟩ => ?_
  cases ds with
  | nil =>
    simp only [RpL] at r
    unfold bindTs at e
    cases e
    exact ⟨r, q σ ⟨rfl, fun _ _ => rfl⟩ A⟩
  | cons d ds => unfold bindTs at e; cases e
theorem rg_cons {e : Expr} {es : List Expr} {t : Tg} {ts : List Tg} (h1 : PG X e (gTg X.K t)) (h2 : PGs X es (gTgs X.K ts)) (hs : (assignEach (e :: es) X.env).map (·.2) = assign e X.env :: (assignEach es X.env).map (·.2)) : PGs X (e :: es) (gTgs X.K (t :: ts)) := by
  refine PGs.imp (pgs_cons h1 h2 hs) fun v σ H Q ⟨c, st, ds, sl', A, r, e, q⟩ => ?_
  cases ds with
  | nil => unfold bindTs at e; cases e
  | cons d ds =>
    simp only [RpL] at r
    obtain ⟨y, ys, rfl, r1, r2⟩ := r
    rw [bindTs] at e
    cases e1 : bindT t d st.sl with
    | none => rw [e1] at e; cases e
    | some sl1 =>
      rw [e1] at e
      refine ⟨y, ys, rfl, c, st, d, sl1, A, r1, e1, fun σ' s' A' => ⟨c, { st with sl := sl1 }, ds, sl', A', r2, e, fun σ2 s2 A2 => q σ2 ⟨s2.len.trans s'.len, fun i hi => ?_⟩ A2⟩⟩
      simp only [Tg.varsL, List.mem_append, not_or] at hi
      rw [s2.at_ i hi.2, s'.at_ i hi.1]
theorem bindTs_length : ∀ {ts : List Tg} {ds : List D} {sl sl' : List Sl}, bindTs ts ds sl = some sl' → ds.length = ts.length
  | [], [], _, _, _ => rfl
  | [], d :: ds, _, _, e => by unfold bindTs at e; cases e
  | t :: ts, [], _, _, e => by unfold bindTs at e; cases e
  | t :: ts, d :: ds, sl, sl', e => by
    rw [bindTs] at e
    split at e
    · simp [bindTs_length e]
    · cases e
theorem rg_tup {es : List Expr} {k : Nat} {ts : List Tg} (hc : X.calm = true) (h : PGs X es (gTgs X.K ts)) (hn : (assignEach es X.env).length = ts.length) (hst : (assignEach es X.env).findIdx? (·.1) = none) : PG X (.Tuple es k pos) (gTg X.K (.tp ts)) := by
  refine PG.imp (pg_tup hc h hn hst) fun v σ H Q ⟨c, st, d, sl', A, r, e, q⟩ => ?_
  cases d with
  | tup ds =>
    simp only [Rp] at r
    obtain ⟨a, xs, rfl, hq, rl⟩ := r
    rw [bindT] at e
    refine ⟨a, xs, rfl, sqT_mono A.fH hq, ?_, c, st, ds, sl', A, rl, e, fun σ' s' A' => q σ' s' A'⟩
    rw [← rl.length, bindTs_length e]
  | _ => unfold bindT at e; cases e
end

/-! ### what is walked -/
/-- what a turn gives -/
def YOut (K : PySem.W.Frag) (c : Gh) (H : Hp) (d : D) (x : V) (H' : Hp) : Prop :=
  (H' = H ∧ Rp K c d x) ∨ ∃ T xs ds, d = .tup ds ∧ x = .ref T ∧ H T = none ∧ H' = upd H T (.tup xs) ∧ RpL K c ds xs
def Come (K : PySem.W.Frag) (c : Gh) (items : List D) (J : It) : Prop := ∃ (G : Hp → Prop) (Y : Nat → Hp → V → Hp → Prop), Walk J items.length G Y ∧
  (∀ c' H, LeF c c' → (∀ a o, c'.F a = some o → H a = some o) → G H) ∧
  ∀ c' i H x H', LeF c c' → (∀ a o, c'.F a = some o → H a = some o) → Y i H x H' → ∀ d, items[i]? = some d → YOut K c' H d x H'
theorem YOut.abs {K : PySem.W.Frag} {c : Gh} {st : S} {σ : St} {H H' : Hp} {d : D} {x : V} (y : YOut K c H d x H') (A : Abs K c st σ H) : ∃ c', Le c c' ∧ Abs K c' st σ H' ∧ Rp K c' d x := by
  rcases y with ⟨rfl, r⟩ | ⟨T, xs, ds, rfl, rfl, hT, rfl, r⟩
  · exact ⟨c, Le.refl c, A, r⟩
  · refine ⟨c.add T (.tup xs), A.newLe hT, A.newF hT, ?_⟩
    simp only [Rp]
    exact ⟨T, xs, rfl, SqT.of add_at, r.mono (A.newLe hT) _ _⟩
/-- a source's reading -/
def tI (K : PySem.W.Frag) (W : Ws) (f : M (List D)) : TI := fun σ H R => ∃ st c, Abs K c st σ H ∧ Sat K W c σ (f st) (Come K) R
theorem Come.list {K : PySem.W.Frag} {c : Gh} {a : Addr} {ds : List D} {xs : List V} (q : SqL K c.F a xs) (r : RpL K c ds xs) : Come K c ds (Itl K a) :=
  ⟨_, _, r.length ▸ walk_list (xs := xs), fun c' H l hf => sqL_mono (fun a o e => hf a o (l.F a o e)) q, fun c' i H x H' l hf y d e => by
    obtain ⟨v, e2, r2⟩ := r.get e
    obtain ⟨rfl, e3⟩ := y
    rw [e2] at e3
    cases e3
    exact .inl ⟨rfl, r2.monoF l⟩⟩
theorem Come.tup {K : PySem.W.Frag} {c : Gh} {a : Addr} {ds : List D} {xs : List V} (q : SqT K c.F a xs) (r : RpL K c ds xs) : Come K c ds (Itt K a) :=
  ⟨_, _, r.length ▸ walk_tup (xs := xs), fun c' H l hf => sqT_mono (fun a o e => hf a o (l.F a o e)) q, fun c' i H x H' l hf y d e => by
    obtain ⟨v, e2, r2⟩ := r.get e
    obtain ⟨rfl, e3⟩ := y
    rw [e2] at e3
    cases e3
    exact .inl ⟨rfl, r2.monoF l⟩⟩
theorem Come.range {K : PySem.W.Frag} {c : Gh} (lo : Int) (n : Nat) : Come K c (rngD lo n) (Itr lo n) := by
  have e : (rngD lo n).length = n := by simp [rngD]
  refine ⟨_, _, by rw [e]; exact walk_range (lo := lo) (n := n), fun _ _ _ _ => trivial, fun c' i H x H' l hf y d ed => ?_⟩
  obtain ⟨rfl, rfl⟩ := y
  simp only [rngD, List.getElem?_map] at ed
  cases e2 : (List.range n)[i]? with
  | none => rw [e2] at ed; cases ed
  | some j =>
    rw [e2] at ed
    have : j = i := by
      have := List.getElem?_eq_some_iff.mp e2
      obtain ⟨h, q⟩ := this
      simpa using q.symm
    subst this
    cases ed
    exact .inl ⟨rfl, by simp only [Rp]⟩
theorem Come.str {K : PySem.W.Frag} {c : Gh} (s : Str) : Come K c (s.cps.toList.map fun c => .str ⟨#[c]⟩) (Its s) := by
  have e : (s.cps.toList.map fun c => (D.str ⟨#[c]⟩)).length = s.cps.size := by simp
  refine ⟨_, _, by rw [e]; exact walk_str (z := s), fun _ _ _ _ => trivial, fun c' i H x H' l hf y d ed => ?_⟩
  obtain ⟨rfl, k, e2, rfl⟩ := y
  rw [List.getElem?_map] at ed
  rw [← Array.getElem?_toList] at e2
  rw [e2] at ed
  cases ed
  exact .inl ⟨rfl, by simp only [Rp]⟩
section
variable {X : Cx} {W : Ws} {tg e a b : Expr} {pos p : Pos}
theorem PI.imp' {t' : TI} (h : ∀ σ H R, t' σ H R → ∃ t, PI X tg e t ∧ t σ H R) : PI X tg e t' := ⟨fun pins s σ H R I q => by
  obtain ⟨t, ht, q2⟩ := h σ H R q
  exact ht.run pins s σ H R I q2⟩
theorem Sat.bindE {K : PySem.W.Frag} {α γ δ : Type} {c : Gh} {σ : St} {r : R α} {g : α → S → R γ} {rel : Gh → γ → δ → Prop} {Q : δ → Hp → Prop} {β : Type} (relA : Gh → α → β → Prop) (h : Sat K W c σ (r.bind g) rel Q) :
    Sat K W c σ r relA fun v H1 => ∃ st1 c1 a, r = .ok a st1 ∧ Le c c1 ∧ Abs K c1 st1 σ H1 ∧ relA c1 a v ∧ Sat K W c1 σ (g a st1) rel Q := by
  cases r with
  | ok a s => exact fun c' b H' l A ra => ⟨s, c', a, rfl, l, A, ra, Sat.mono (show Sat K W c σ (g a s) rel Q from h) l⟩
  | ex x s => exact h
  | no => exact h
/-- behind an expression whose value is known -/
theorem tD_onE {K : PySem.W.Frag} {α δ : Type} {f : M D} {g : D → S → R α} {rel : Gh → α → δ → Prop} {σ : St} {H : Hp} {c : Gh} {st : S} {Q : δ → Hp → Prop} {Q' : VK} (A : Abs K c st σ H) (h : Sat K W c σ ((f st).bind g) rel Q)
    (k : ∀ v H1 st1 c1 d, f st = .ok d st1 → Le c c1 → Abs K c1 st1 σ H1 → Rp K c1 d v → Sat K W c1 σ (g d st1) rel Q → Q' v H1) : tD K W f σ H Q' :=
  ⟨st, c, A, (Sat.bindE (Rp K) h).imp fun v H1 ⟨st1, c1, d, e, l, A1, r, h1⟩ => k v H1 st1 c1 d e l A1 r h1⟩
theorem ri_each {f : M D} (he : PE X e (tD X.K W f)) : PI X tg e (tI X.K W (f >>= fun d => ofO (walkD d))) := by
  refine PI.imp' fun σ H R ⟨st, c, A, h⟩ => ?_
  have h : Sat X.K W c σ ((f st).bind fun d => ofO (walkD d)) (Come X.K) R := h
  cases ef : f st with
  | no => rw [ef] at h; exact h.elim
  | ex x s =>
    refine ⟨_, pi_list he, tD_onE A h fun v H1 st1 c1 d e l1 A1 r1 h1 => ?_⟩
    rw [ef] at e; cases e
  | ok d0 s0 =>
    have kill : ∀ {st1 c1 d} {P : Prop}, f st = .ok d st1 → Sat X.K W c1 σ (ofO (walkD d) st1) (Come X.K) R → (d = d0 → Sat X.K W c1 σ (ofO (walkD d0) st1) (Come X.K) R → P) → P := fun e h k => by
      rw [ef] at e; cases e; exact k rfl h
    cases d0 with
    | lst ds =>
      refine ⟨_, pi_list he, tD_onE A h fun v H1 st1 c1 d e l1 A1 r1 h1 => kill e h1 fun e2 h2 => ?_⟩
      subst e2
      simp only [Rp] at r1
      obtain ⟨a, xs, rfl, q, r⟩ := r1
      exact ⟨a, rfl, ⟨xs, sqL_mono A1.fH q⟩, Sat.now (show Sat X.K W c1 σ (.ok ds st1) _ _ from h2) A1 (Come.list q r)⟩
    | tup ds =>
      refine ⟨_, pi_tup he, tD_onE A h fun v H1 st1 c1 d e l1 A1 r1 h1 => kill e h1 fun e2 h2 => ?_⟩
      subst e2
      simp only [Rp] at r1
      obtain ⟨a, xs, rfl, q, r⟩ := r1
      exact ⟨a, rfl, ⟨xs, sqT_mono A1.fH q⟩, Sat.now (show Sat X.K W c1 σ (.ok ds st1) _ _ from h2) A1 (Come.tup q r)⟩
    | str x =>
      refine ⟨_, pi_str he, tD_onE A h fun v H1 st1 c1 d e l1 A1 r1 h1 => kill e h1 fun e2 h2 => ?_⟩
      subst e2
      simp only [Rp] at r1
      exact ⟨x, r1, Sat.now (show Sat X.K W c1 σ (.ok _ st1) _ _ from h2) A1 (Come.str x)⟩
    | _ => rw [ef] at h; exact h.elim
theorem idx62_iff {j : Int} (h : idx62 j = true) : -(2 ^ 62) ≤ j ∧ j < 2 ^ 62 := by
  unfold idx62 at h
  rw [Bool.and_eq_true, decide_eq_true_eq, decide_eq_true_eq] at h
  exact h
theorem ri_rng1 {f : M D} (hg : Gl X "range") (hm : X.mg "range" = none) (ha : PE X a (tD X.K W f)) (hs : starEach [a] X.env = [(false, eval a X.env)]) : PI X tg (.Call (.Name "range" p) [a] [] pos) (tI X.K W (f >>= rng1M)) := by
  refine PI.imp' fun σ H R ⟨st, c, A, h⟩ => ⟨_, pi_range1 hg hm (pa_cons ha pa_nil (by rw [hs]; rfl)) hs, ?_⟩
  refine tD_on A h fun v H1 st1 c1 d l1 A1 r1 h1 => ?_
  cases d with
  | int j =>
    have h2 : Sat X.K W c1 σ ((if idx62 j = true then Pure.pure (rngD 0 j.toNat) else stuck : M (List D)) st1) (Come X.K) R := h1
    by_cases hj : idx62 j = true
    · rw [if_pos hj] at h2
      have := idx62_iff hj
      exact ⟨j, by simp only [Rp] at r1; rw [r1], this.1, this.2, (Sat.pure h2).now A1 (Come.range 0 j.toNat)⟩
    · rw [if_neg hj] at h2; exact h2.elim
  | _ => exact h1.elim
theorem ri_rng2 {f g : M D} (hg : Gl X "range") (hm : X.mg "range" = none) (ha : PE X a (tD X.K W f)) (hb : PE X b (tD X.K W g)) (hs : starEach [a, b] X.env = [(false, eval a X.env), (false, eval b X.env)]) (hs2 : starEach [b] X.env = [(false, eval b X.env)]) :
    PI X tg (.Call (.Name "range" p) [a, b] [] pos) (tI X.K W (f >>= fun x => g >>= fun y => rng2M x y)) := by
  refine PI.imp' fun σ H R ⟨st, c, A, h⟩ => ⟨_, pi_range2 hg hm (pa_cons ha (pa_cons hb pa_nil (by rw [hs2]; rfl)) (by rw [hs, hs2])) hs hs2, ?_⟩
  refine tD_on A h fun v H1 st1 c1 d l1 A1 r1 h1 => ?_
  refine tD_on A1 h1 fun w H2 st2 c2 d2 l2 A2 r2 h2 => ?_
  cases d with
  | int i =>
    cases d2 with
    | int j =>
      have h3 : Sat X.K W c2 σ ((if idx62 i && idx62 j then Pure.pure (rngD i (j - i).toNat) else stuck : M (List D)) st2) (Come X.K) R := h2
      by_cases hj : (idx62 i && idx62 j) = true
      · rw [if_pos hj] at h3
        rw [Bool.and_eq_true] at hj
        have q1 := idx62_iff hj.1
        have q2 := idx62_iff hj.2
        exact ⟨i, j, by simp only [Rp] at r1 r2; rw [r1, r2], ⟨q1.1, q1.2, q2.1, q2.2⟩, (Sat.pure h3).now A2 (Come.range i (j - i).toNat)⟩
      · rw [if_neg hj] at h3; exact h3.elim
    | _ => exact h2.elim
  | _ => exact h2.elim
end
end Pv

set_option maxRecDepth 100000
/-! Pv.Comp: list comprehensions. -/
namespace Pv
open PySem PySem.Spec L2
/-- a clause's tests, by readings -/
theorem PTs.imp {X : Cx} {ifs : List Expr} {t t' : TT} (h : PTs X ifs t) (k : ∀ σ H Q, t' σ H Q → t σ H Q) : PTs X ifs t' := ⟨fun pins s σ H Q I q => h.run pins s σ H Q I (k σ H Q q)⟩
theorem rc_none {X : Cx} {W : Ws} {f : M Bool} (hf : ∀ s, f s = .ok true s) : PTs X [] (tT X.K W f) := PTs.imp pts_nil fun σ H Q ⟨st, c, A, h⟩ => by
  rw [hf] at h
  exact h.now A rfl
theorem rc_one {X : Cx} {W : Ws} {e : Expr} {f : M Bool} (h : PT X e (tT X.K W f)) : PTs X [e] (tT X.K W f) := pts_one h

theorem compL_cons (turn : D → M (Option D)) (d : D) (ds : List D) (s : S) : compL turn (d :: ds) s = (turn d s).bind fun o s1 => (compL turn ds s1).bind fun r s2 => .ok (match o with
    | some x => x :: r
    | none => r) s2 := rfl
theorem turnM_ap (g : D → M Unit) (c : M Bool) (e : M D) (d : D) (s : S) : turnM g c e d s = (g d s).bind fun _ s => (c s).bind fun k s => if k then (e s).bind fun x s => .ok (some x) s else .ok none s := by
  show (g d s).bind _ = _
  congr 1
  funext u s
  show (c s).bind _ = _
  congr 1
  funext k s
  cases k <;> rfl
theorem bind_eq_ok {α β : Type} {r : R α} {f : α → S → R β} {b : β} {s : S} (h : r.bind f = .ok b s) : ∃ a s1, r = .ok a s1 ∧ f a s1 = .ok b s := by
  cases r with
  | ok a s1 => exact ⟨a, s1, rfl, h⟩
  | ex x s1 => cases h
  | no => cases h
theorem bindM_ok {t : Tg} {d : D} {s s' : S} (h : bindM t d s = .ok () s') : ∃ sl, bindT t d s.sl = some sl ∧ s' = { s with sl := sl } := by
  unfold bindM at h
  split at h
  · rename_i sl e
    cases h
    exact ⟨sl, e, rfl⟩
  · cases h
theorem bindM_ok' {t : Tg} {d : D} {s s' : S} {u : Unit} (h : bindM t d s = .ok u s') : ∃ sl, bindT t d s.sl = some sl ∧ s' = { s with sl := sl } := bindM_ok h
theorem sat_ok {K : PySem.W.Frag} {W : Ws} {α β : Type} {c : Gh} {σ : St} {a : α} {s : S} {rel : Gh → α → β → Prop} {Q : β → Hp → Prop} (h : ∀ c' b H', Le c c' → Abs K c' s σ H' → rel c' a b → Q b H') : Sat K W c σ (.ok a s) rel Q := h

section
variable {X : Cx} {W : Ws} {elt tg iter : Expr} {ifs : List Expr} {scope : Scope} {own : List (Str × Nat)} {pos : Pos}
theorem lc_sat {K : PySem.W.Frag} {c1 : Gh} {st1 : S} {σ : St} {H1 : Hp} {J : It} {items : List D} {t : Tg} {fC : M Bool} {fE : M D} {vs : List Nat} {Q : VK} (A1 : Abs K c1 st1 σ H1) (hJ : Come K c1 items J) (hv : ∀ i ∈ t.vars, i ∈ vs)
    (h : SatF K W c1 σ (compM vs (turnM (bindM t) fC fE) items st1) Q) (D : Addr) (hD : H1 D = none) :
    ∃ W : Nat → Nat → Hp → Prop, (∃ m, W 0 m (upd H1 D (.lst []))) ∧ ∀ i m H, W i m H →
      (J.stop i H ∧ Q (.ref D) H) ∨ (J.go i H ∧ ∃ Nx : Hp → Prop, (∀ H', Nx H' → ∃ m', m' < m ∧ W (i + 1) m' H') ∧ ∀ x H', J.yld i H x H' → gTg K t x (wipe σ vs) H' fun σ2 H2 => wipe σ2 vs = wipe σ vs ∧ tT K W0 fC σ2 H2 fun b H3 =>
        if b = true then tD K W0 fE σ2 H3 fun y H4 => ∃ acc, H4 D = some (.lst acc) ∧ acc.length < sizeLine ∧ Nx (upd H4 D (.lst (acc ++ [y]))) else Nx H3) := by
  unfold compM at h
  split at h
  rotate_left
  · exact h.elim
  rename_i hn
  split at h
  rotate_left
  · exact h.elim
  rename_i ds s' ec
  split at h
  rotate_left
  · exact h.elim
  rename_i hl
  obtain ⟨G, Y, wk, hG, hY⟩ := hJ
  let tu : Pv.D → M (Option Pv.D) := fun d s => turnM (bindM t) fC fE d { s with sl := wipeS s.sl vs }
  let Pv' : Nat → Hp → Prop := fun i H => ∃ (stx : S) (c : Gh) (acc : List Pv.D) (accV : List V) (rest : List Pv.D), Le c1 c ∧ stx.sl.length = σ.length ∧ Abs K c { stx with sl := wipeS stx.sl vs } (wipe σ vs) H ∧ c.F D = none ∧ c.B D = none ∧
    NoOwn { stx with sl := wipeS stx.sl vs } (wipe σ vs) c D ∧ H D = some (.lst accV) ∧ RpL K c acc accV ∧ compL tu (items.drop i) stx = .ok rest s' ∧ acc ++ rest = ds
  refine lc_it wk Pv' ?_ ?_ ?_ ?_
  · refine ⟨st1, c1, [], [], ds, Le.refl c1, A1.len, (A1.wiped vs).new hD, A1.fN hD, A1.bN hD, (A1.wiped vs).noOwn_new hD, upd_same, RpL.nil, ec, rfl⟩
  · rintro i H - ⟨stx, c, acc, accV, rest, l, hz, A, -⟩
    exact hG c H l.toF A.fH
  · rintro i x H H' hi ⟨stx, c, acc, accV, rest, l, hz, A, hf, hb, hno, hDa, ra, er, ea⟩ y
    have A' := A.hold hDa hf hb hno
    have ed : items[i]? = some items[i] := List.getElem?_eq_getElem hi
    generalize items[i] = d at ed
    have ed' : items.drop i = d :: items.drop (i + 1) := by
      rw [List.drop_eq_getElem_cons hi]
      have := List.getElem?_eq_some_iff.mp ed
      rw [this.2]
    rw [ed', compL_cons] at er
    obtain ⟨o, s4, e1, e2⟩ := bind_eq_ok er
    obtain ⟨r, s5, e3, e4⟩ := bind_eq_ok e2
    have e1' : turnM (bindM t) fC fE d { stx with sl := wipeS stx.sl vs } = .ok o s4 := e1
    rw [turnM_ap] at e1'
    obtain ⟨_, s1, e5, e6⟩ := bind_eq_ok e1'
    obtain ⟨sl1, e7, rfl⟩ := bindM_ok' e5
    obtain ⟨k, s2, e8, e9⟩ := bind_eq_ok e6
    have yo : YOut K ⟨c.F, upd c.B D (.lst accV), c.am⟩ H d x H' := hY ⟨c.F, upd c.B D (.lst accV), c.am⟩ i H x H' ⟨l.F, l.am⟩ A'.fH y d ed
    obtain ⟨ch, lh, Ah, rh⟩ := yo.abs A'
    refine ⟨ch, _, d, sl1, Ah, rh, e7, fun σ2 sm A2 => ⟨?_, ?_⟩⟩
    · rw [sm.wipe hv, wipe_wipe]
    have wp : wipe σ2 vs = wipe σ vs := by rw [sm.wipe hv, wipe_wipe]
    have lσ : σ2.length = σ.length := by rw [sm.len, wipe_length]
    refine ⟨_, ch, A2, ?_⟩
    rw [e8]
    refine sat_ok fun c3 b H3 l3 A3 eb => ?_
    subst eb
    -- what is so behind the turn
    have fin : ∀ {s6 : S} {c6 : Gh} {H6 : Hp} (A6 : Abs K c6 s6 σ2 H6) (l6 : Le ch c6), (∃ c7, Le c1 c7 ∧ LeF c6 c7 ∧ RpL K c7 acc accV ∧ c7.F D = none ∧ c7.B D = none ∧ NoOwn { s6 with sl := wipeS s6.sl vs } (wipe σ vs) c7 D ∧ Abs K c7 { s6 with sl := wipeS s6.sl vs } (wipe σ vs) H6 ∧ H6 D = some (.lst accV) ∧
        s6.sl.length = σ.length) := by
      intro s6 c6 H6 A6 l6
      obtain ⟨A7, e10, f7, n7, l7⟩ := A6.unhold (lh.trans l6) hb
      have w7 := A7.wiped vs
      have nw := n7.wiped vs
      rw [wp] at w7 nw
      exact ⟨⟨c6.F, c.B, c6.am⟩, l.trans l7, ⟨fun _ _ z => z, ⟨[], by simp⟩⟩, ra.mono l7 _ _, f7, hb, nw.leF rfl, w7, e10, A6.len.trans lσ⟩
    cases k with
    | false =>
      rw [if_neg (by decide)] at e9 ⊢
      cases e9
      cases e4
      obtain ⟨c7, l7, _, ra7, f7, b7, n7, A7, e10, z7⟩ := fin A3 l3
      exact ⟨_, c7, acc, accV, r, l7, z7, A7, f7, b7, n7, e10, ra7, e3, ea⟩
    | true =>
      rw [if_pos rfl] at e9 ⊢
      obtain ⟨z, s3, e11, e12⟩ := bind_eq_ok e9
      cases e12
      cases e4
      refine ⟨s2, c3, A3, ?_⟩
      rw [e11]
      refine sat_ok fun c4 yv H4 l4 A4 ry => ?_
      obtain ⟨c7, l7, lf, ra7, f7, b7, n7, A7, e10, z7⟩ := fin A4 (l3.trans l4)
      have hlen : accV.length < sizeLine := by
        have h1 := lenOk_le hl
        rw [← ea, List.length_append, List.length_cons, ra7.length] at h1
        omega
      refine ⟨accV, e10, hlen, _, c7, acc ++ [z], accV ++ [yv], r, l7, z7, A7.updFree f7 b7 n7, f7, b7, n7, upd_same, ra7.append (RpL.one (ry.monoF lf)), e3, by rw [← ea]; simp⟩
  · rintro H ⟨stx, c, acc, accV, rest, l, hz, A, hf, hb, hno, hDa, ra, er, ea⟩
    rw [List.drop_length] at er
    have : rest = [] ∧ stx = s' := by
      have e : (R.ok [] stx : R (List Pv.D)) = .ok rest s' := er
      cases e
      exact ⟨rfl, rfl⟩
    obtain ⟨rfl, rfl⟩ := this
    rw [List.append_nil] at ea
    subst ea
    have Ab : Abs K c { stx with sl := backS st1.sl stx.sl vs } σ H := A.back A1 l.toF hn hz
    have nb : NoOwn { stx with sl := backS st1.sl stx.sl vs } σ c D := by
      intro k o
      cases k with
      | inl i =>
        obtain ⟨⟨d, e⟩, e2⟩ := o
        rcases backS_get e with ⟨z, z2⟩ | ⟨z, z2⟩
        · obtain ⟨t', q1, q2⟩ := noOwn_at hn z
          have e3 : st1.sl.getD i .un = t' := by rw [List.getD_eq_getElem?_getD, q1]; rfl
          rw [e3] at z2
          exact q2 d z2.symm
        · exact hno (.inl i) ⟨⟨d, by rw [Abs.back.wipeS_out z]; exact z2⟩, by rw [wipe_out z]; exact e2⟩
      | inr n => exact hno (.inr n) o
    have Ao := Ab.out hf hb nb
    have := (h c (outH H D) l Ao) D accV (by unfold outH; simp) ra (ra.length ▸ lenOk_le hl)
    rw [outH_upd hDa] at this
    exact this
theorem rl_comp {t : Tg} {fT : M (List D)} {fC : M Bool} {fE : M D} (hc : X.calm = true) (hN : X.N.Nodup) (hi : PI X tg iter (tI X.K W fT)) (ok : BlkOk X.N X.env.scope scope own)
    (hg : ∀ (s : Shared) (H : Hp) (C : Addr) (cl : List (Str × Addr)) (fp : List Addr), PG (X.blk s H scope (compEnvC scope cl C X.env) fp) tg (gTg X.K t)) (ht : ∀ (s : Shared) (H : Hp) (C : Addr) (cl : List (Str × Addr)) (fp : List Addr), PTs (X.blk s H scope (compEnvC scope cl C X.env) fp) ifs (tT X.K W0 fC))
    (he : ∀ (s : Shared) (H : Hp) (C : Addr) (cl : List (Str × Addr)) (fp : List Addr), PE (X.blk s H scope (compEnvC scope cl C X.env) fp) elt (tD X.K W0 fE)) (hs : ∀ x, foldedSetIterable iter X.env x = pure x) (hv : ∀ i ∈ t.vars, i ∈ own.map (·.2)) :
    PE X (.ListComp elt [⟨tg, iter, ifs, 0⟩] scope pos) (tF X.K W (fT >>= fun items => compM (own.map (·.2)) (turnM (bindM t) fC fE) items)) :=
  PE.imp (pe_lc hc hN hi ok hg ht he hs) fun σ H Q ⟨st, c, A, h⟩ => ⟨st, c, A, (SatF.bind (Come X.K) h).imp fun J H1 ⟨st1, c1, items, l1, A1, hJ, h1⟩ => lc_sat A1 hJ hv h1⟩
theorem rs_setComp {i : Nat} {y : Str} {py spos : Pos} {t : Tg} {fT : M (List D)} {fC : M Bool} {fE : M D} (hc : X.calm = true) (hN : X.N.Nodup) (hy : X.N[i]? = some y) (hyl : X.env.scope.names.lookup y = some .local)
    (hsw : swapsWith (.ListComp elt [⟨tg, iter, ifs, 0⟩] scope pos) (some (.Name y py)) spos.line X.env = pure true) (hi : PI X tg iter (tI X.K W fT)) (ok : BlkOk X.N X.env.scope scope own)
    (hg : ∀ (s : Shared) (H : Hp) (C : Addr) (cl : List (Str × Addr)) (fp : List Addr), PG (X.blk s H scope (compEnvC scope cl C X.env) fp) tg (gTg X.K t)) (ht : ∀ (s : Shared) (H : Hp) (C : Addr) (cl : List (Str × Addr)) (fp : List Addr), PTs (X.blk s H scope (compEnvC scope cl C X.env) fp) ifs (tT X.K W0 fC))
    (he : ∀ (s : Shared) (H : Hp) (C : Addr) (cl : List (Str × Addr)) (fp : List Addr), PE (X.blk s H scope (compEnvC scope cl C X.env) fp) elt (tD X.K W0 fE)) (hs : ∀ x, foldedSetIterable iter X.env x = pure x) (hv : ∀ i ∈ t.vars, i ∈ own.map (·.2)) :
    PS X (.Assign [.Name y py] (.ListComp elt [⟨tg, iter, ifs, 0⟩] scope pos) spos) (tAsg (tF X.K W (fT >>= fun items => compM (own.map (·.2)) (turnM (bindM t) fC fE) items)) (gName i)) :=
  PS.imp (ps_setLc hc hN hy hyl hsw hi ok hg ht he hs) fun D σ H ⟨st, c, A, h⟩ => ⟨st, c, A, (SatF.bind (Come X.K) h).imp fun J H1 ⟨st1, c1, items, l1, A1, hJ, h1⟩ => lc_sat A1 hJ hv h1⟩
end
end Pv

set_option maxRecDepth 100000
/-! Pv.Stmt: statements follow the evaluator. -/
namespace Pv
open PySem PySem.Spec L2
section
variable (K : PySem.W.Frag) (W : Ws)
/-- where a statement ends -/
def SatS (c : Gh) (r : R Fl) (D : Ends) : Prop := match r with
  | .ok .nx st' => ∀ c' σ' H', Le c c' → Abs K c' st' σ' H' → D.nx σ' H'
  | .ok (.rt d) st' => ∀ c' σ' v H', Le c c' → Abs K c' st' σ' H' → Rp K c' d v → D.rt v H'
  | .ok .bk st' => ∀ c' σ' H', Le c c' → Abs K c' st' σ' H' → D.bk σ' H'
  | .ok .ct st' => ∀ c' σ' H', Le c c' → Abs K c' st' σ' H' → D.ct σ' H'
  | .ex x st' => ∀ c' σ' H', Le c c' → Abs K c' st' σ' H' → W x c' H'
  | .no => False
def tS (f : M Fl) : TS := fun D σ H => ∃ st c, Abs K c st σ H ∧ SatS K W c (f st) D
end
section
variable {K : PySem.W.Frag} {W : Ws} {c c' : Gh} {st : S} {σ : St} {H : Hp} {En : Ends} {α β : Type}
theorem SatS.mono {r : R Fl} (h : SatS K W c r En) (l : Le c c') : SatS K W c' r En := by
  cases r with
  | ok f s =>
    cases f with
    | nx => exact fun c2 σ' H' l2 A => h c2 σ' H' (l.trans l2) A
    | rt d => exact fun c2 σ' v H' l2 A q => h c2 σ' v H' (l.trans l2) A q
    | bk => exact fun c2 σ' H' l2 A => h c2 σ' H' (l.trans l2) A
    | ct => exact fun c2 σ' H' l2 A => h c2 σ' H' (l.trans l2) A
  | ex x s => exact fun c2 σ' H' l2 A => h c2 σ' H' (l.trans l2) A
  | no => exact h
/-- an expression ahead of the end -/
theorem SatS.bind {r : R α} {g : α → S → R Fl} (relA : Gh → α → β → Prop) (h : SatS K W c (r.bind g) En) :
    Sat K W c σ r relA fun v H1 => ∃ st1 c1 a, Le c c1 ∧ Abs K c1 st1 σ H1 ∧ relA c1 a v ∧ SatS K W c1 (g a st1) En := by
  cases r with
  | ok a s => exact fun c2 b H' l A q => ⟨s, c2, a, l, A, q, SatS.mono h l⟩
  | ex x s => exact fun c2 H' l A => h c2 σ H' l A
  | no => exact h
theorem tD_st {f : M D} {g : D → S → R Fl} {Q' : VK} {E : Ends} (A : Abs K c st σ H) (h : SatS K W c ((f st).bind g) E)
    (k : ∀ v H1 st1 c1 d, Le c c1 → Abs K c1 st1 σ H1 → Rp K c1 d v → SatS K W c1 (g d st1) E → Q' v H1) : tD K W f σ H Q' :=
  ⟨st, c, A, (SatS.bind (Rp K) h).imp fun v H1 ⟨st1, c1, d, l, A1, r, h1⟩ => k v H1 st1 c1 d l A1 r h1⟩
theorem tT_st {f : M Bool} {g : Bool → S → R Fl} {Q' : Bool → Hp → Prop} {E : Ends} (A : Abs K c st σ H) (h : SatS K W c ((f st).bind g) E)
    (k : ∀ v H1 st1 c1, Le c c1 → Abs K c1 st1 σ H1 → SatS K W c1 (g v st1) E → Q' v H1) : tT K W f σ H Q' :=
  ⟨st, c, A, (SatS.bind (fun _ b k => b = k) h).imp fun v H1 ⟨st1, c1, d, l, A1, r, h1⟩ => by subst r; exact k d H1 st1 c1 l A1 h1⟩
/-- .. where the value's list is new -/
theorem tF_st {f : M D} {g : D → S → R Fl} {Q' : VK} {E : Ends} (A : Abs K c st σ H) (h : SatS K W c ((f st).bind g) E)
    (k : ∀ H1 st1 c1 d, Le c c1 → Abs K c1 st1 σ H1 → SatS K W c1 (g d st1) E → Post K c1 H1 d Q') : tF K W f σ H Q' := by
  refine ⟨st, c, A, ?_⟩
  cases e : f st with
  | ok d s =>
    rw [e] at h
    exact fun c2 H2 l A2 => k H2 s c2 d l A2 (SatS.mono h l)
  | ex x s =>
    rw [e] at h
    exact fun c2 H2 l A2 => h c2 σ H2 l A2
  | no => rw [e] at h; exact h
theorem SatS.nx {s : S} (h : SatS K W c (.ok .nx s) En) (A : Abs K c s σ H) : En.nx σ H := h c σ H (Le.refl c) A
theorem setSl_ap (i : Nat) (x : Sl) (s : S) : setSl i x s = if i < s.sl.length then .ok () { s with sl := s.sl.set i x } else .no := rfl
end
section
variable {X : Cx} {W : Ws} {pos : Pos} {e a b : Expr}
theorem rs_set {i : Nat} {x : Str} {f : M D} {pos' : Pos} (hN : X.N.Nodup) (hi : X.N[i]? = some x) (hx : Loc X.env.scope x) (he : PE X e (tD X.K W f)) (hs : swapsWith e (some (.Name x pos')) pos.line X.env = pure false) (hf : X.fn x = true ∨ X.env.scope.names.lookup x = some .local) :
    PS X (.Assign [.Name x pos'] e pos) (tS X.K W (f >>= fun d => setSl i (.fz d) >>= fun _ => Pure.pure .nx)) := by
  refine PS.imp (ps_set hN hi hx he hs hf) fun E σ H ⟨st, c, A, h⟩ => ?_
  refine tD_st A h fun v H1 st1 c1 d l A1 r h1 => ?_
  have h2 : SatS X.K W c1 ((setSl i (.fz d) st1).bind fun _ s => .ok .nx s) E := h1
  rw [setSl_ap] at h2
  split at h2
  · rename_i hl
    exact SatS.nx (s := { st1 with sl := st1.sl.set i (.fz d) }) h2 (A1.setFz hl r)
  · exact h2.elim
/-- a list made for this name -/
theorem own_end {i : Nat} {f : M D} {fr : Bool} {E : Ends} {σ : St} {H : Hp} (h : tS X.K W (f >>= fun d => ofO (mkSl true fr d) >>= fun x => setSl i x >>= fun _ => Pure.pure .nx) E σ H) :
    tF X.K W f σ H fun v H1 => gName i v σ H1 E.nx := by
  obtain ⟨st, c, A, h⟩ := h
  refine tF_st A h fun H1 st1 c1 d l A1 h1 => ?_
  have h2 : SatS X.K W c1 ((ofO (mkSl true fr d) st1).bind fun x s => (setSl i x s).bind fun _ s => .ok .nx s) E := h1
  unfold mkSl at h2
  rw [if_pos rfl] at h2
  split at h2
  · rename_i hk
    rw [Bool.and_eq_true] at hk
    cases d with
    | lst ds =>
      intro p xs hp r hl
      have h3 : SatS X.K W c1 ((setSl i (.ow (.lst ds)) st1).bind fun _ s => .ok .nx s) E := h2
      rw [setSl_ap] at h3
      split at h3
      · rename_i hi
        exact SatS.nx (s := { st1 with sl := st1.sl.set i (.ow (.lst ds)) }) h3 ((A1.new hp).setOw hi ⟨A1.fN hp, A1.bN hp, xs, upd_same, r⟩ (A1.noOwn_new hp))
      · exact h3.elim
    | _ => cases hk.2
  · exact h2.elim
theorem rs_own {i : Nat} {x : Str} {f : M D} {fr : Bool} {pos' : Pos} (hN : X.N.Nodup) (hi : X.N[i]? = some x) (hx : Loc X.env.scope x) (he : PE X e (tF X.K W f)) (hs : swapsWith e (some (.Name x pos')) pos.line X.env = pure false) (hf : X.fn x = true ∨ X.env.scope.names.lookup x = some .local) :
    PS X (.Assign [.Name x pos'] e pos) (tS X.K W (f >>= fun d => ofO (mkSl true fr d) >>= fun x => setSl i x >>= fun _ => Pure.pure .nx)) :=
  PS.imp (ps_set hN hi hx he hs hf) fun E σ H h => own_end h
/-- the same where the reading of the store is known (a comprehension on one line) -/
theorem rs_ownC {i : Nat} {s : Stmt} {f : M D} {fr : Bool} (h : PS X s (tAsg (tF X.K W f) (gName i))) : PS X s (tS X.K W (f >>= fun d => ofO (mkSl true fr d) >>= fun x => setSl i x >>= fun _ => Pure.pure .nx)) :=
  PS.imp h fun E σ H h => own_end h
theorem rs_setC {i : Nat} {s : Stmt} {f : M D} (h : PS X s (tAsg (tF X.K W f) (gName i))) : PS X s (tS X.K W (f >>= fun d => setSl i (.fz d) >>= fun _ => Pure.pure .nx)) := by
  refine PS.imp h fun E σ H ⟨st, c, A, h⟩ => ?_
  refine tF_st A h fun H1 st1 c1 d l A1 h1 => ?_
  have h2 : SatS X.K W c1 ((setSl i (.fz d) st1).bind fun _ s => .ok .nx s) E := h1
  rw [setSl_ap] at h2
  have any : ∀ v, Rp X.K c1 d v → gName i v σ H1 E.nx := fun v r => by
    split at h2
    · rename_i hl
      exact SatS.nx (s := { st1 with sl := st1.sl.set i (.fz d) }) h2 (A1.setFz hl r)
    · exact h2.elim
  have new : ∀ p o, H1 p = none → (∀ c2, Le c1 c2 → c2.F p = some o → Rp X.K c2 d (.ref p)) → gName i (.ref p) σ (upd H1 p o) E.nx := fun p o hp r => by
    split at h2
    · rename_i hl
      have l2 := A1.newLe (o := o) hp
      exact SatS.nx (s := { st1 with sl := st1.sl.set i (.fz d) }) (SatS.mono (show SatS X.K W c1 (.ok .nx _) E from h2) l2) ((A1.newF hp).setFz hl (r _ l2 add_at))
    · exact h2.elim
  cases d with
  | lst ds =>
    refine fun p xs hp r hl => new p _ hp fun c2 l2 e => ?_
    simp only [Rp]
    exact ⟨p, xs, rfl, SqL.of e, r.mono l2 _ _⟩
  | tup ds =>
    refine ⟨any, fun p xs hp r hl => new p _ hp fun c2 l2 e => ?_⟩
    simp only [Rp]
    exact ⟨p, xs, rfl, SqT.of e, r.mono l2 _ _⟩
  | _ => exact any
/-- a, b, .. = a tuple -/
theorem rs_unp {f : M D} {t : Tg} (he : PE X e (tD X.K W f)) (hg : PG X a (gTg X.K t)) (hs : swapsWithSole [a] e pos.line X.env = pure false) (hw : swappedStores [a] e X.env = pure none) (h1 : (assignEach [a] X.env).map (·.2) = [assign a X.env]) :
    PS X (.Assign [a] e pos) (tS X.K W (f >>= fun d => bindM t d >>= fun _ => Pure.pure .nx)) := by
  refine PS.imp (ps_asg he hg hs hw h1) fun E σ H ⟨st, c, A, h⟩ => ?_
  refine tD_st A h fun v H1 st1 c1 d l A1 r h1 => ?_
  have h2 : SatS X.K W c1 ((bindM t d st1).bind fun _ s => .ok .nx s) E := h1
  unfold bindM at h2
  split at h2
  · rename_i sl e1
    exact ⟨c1, st1, d, sl, A1, r, e1, fun σ' s' A' => SatS.nx (s := { st1 with sl := sl }) h2 A'⟩
  · exact h2.elim
/-- a, b = x, y -/
theorem rs_par2 {i j : Nat} {x y : Str} {f : M (List D)} {px py pt : Pos} {kt k2 pt2} (hc : X.calm = true) (hN : X.N.Nodup) (hi : X.N[i]? = some x) (hj : X.N[j]? = some y) (hij : i ≠ j)
    (hx : X.env.scope.names.lookup x = some .local) (hy : X.env.scope.names.lookup y = some .local) (ha : PA X [a, b] (tDs X.K W f))
    (hw : swappedStores [.Tuple [.Name x px, .Name y py] kt pt] (.Tuple [a, b] k2 pt2) X.env = pure (some [x, y]))
    (hs : swapsWithSole [.Tuple [.Name x px, .Name y py] kt pt] (.Tuple [a, b] k2 pt2) pos.line X.env = pure false) :
    PS X (.Assign [.Tuple [.Name x px, .Name y py] kt pt] (.Tuple [a, b] k2 pt2) pos) (tS X.K W ((f >>= fun ds => ofO (mkT ds)) >>= fun d => bindM (.tp [.nm i, .nm j]) d >>= fun _ => Pure.pure .nx)) := by
  refine PS.imp (ps_par hc hN hi hj hij hx hy ha hw hs) fun E σ H ⟨st, c, A, h⟩ => ?_
  have h : SatS X.K W c (((f st).bind fun ds => ofO (mkT ds)).bind fun d => (fun s => (bindM (.tp [.nm i, .nm j]) d s).bind fun _ s => .ok .nx s)) E := h
  rw [R.bind_assoc] at h
  refine ⟨st, c, A, (SatS.bind (RpL X.K) h).imp fun vs H1 ⟨st1, c1, ds, l, A1, r, h1⟩ => ?_⟩
  cases em : mkT ds with
  | none => rw [em] at h1; exact h1.elim
  | some z =>
    obtain ⟨rfl, hl⟩ := mkT_some em
    rw [em] at h1
    have h2 : SatS X.K W c1 ((bindM (.tp [.nm i, .nm j]) (.tup ds) st1).bind fun _ s => .ok .nx s) E := h1
    unfold bindM at h2
    split at h2
    · rename_i sl e1
      rw [bindT] at e1
      have hlen := bindTs_length e1
      match ds, hlen, e1, r with
      | [d1, d2], _, e1, r =>
        rw [bindTs, bindT] at e1
        split at e1
        · rename_i sl1 e2
          split at e2
          · rename_i h3
            cases e2
            rw [bindTs, bindT] at e1
            split at e1
            · rename_i sl2 e4
              split at e4
              · rename_i h5
                cases e4
                rw [bindTs] at e1
                cases e1
                simp only [RpL] at r
                obtain ⟨v, r1, rfl, rv, w, r2, rfl, rw', rfl⟩ := r
                refine ⟨v, w, rfl, SatS.nx (s := { st1 with sl := (st1.sl.set i (.fz d1)).set j (.fz d2) }) h2 ?_⟩
                exact (A1.setFz h3 rv).setFz (st := { st1 with sl := st1.sl.set i (.fz d1) }) h5 rw'
              · cases e4
            · cases e1
          · cases e2
        · cases e1
    · exact h2.elim
theorem rs_par3 {i j k : Nat} {x y z : Str} {c' : Expr} {f : M (List D)} {px py pz pt : Pos} {kt k2 pt2} (hc : X.calm = true) (hN : X.N.Nodup) (hi : X.N[i]? = some x) (hj : X.N[j]? = some y) (hk : X.N[k]? = some z) (hij : i ≠ j) (hik : i ≠ k) (hjk : j ≠ k)
    (hx : X.env.scope.names.lookup x = some .local) (hy : X.env.scope.names.lookup y = some .local) (hz : X.env.scope.names.lookup z = some .local) (ha : PA X [a, b, c'] (tDs X.K W f))
    (hw : swappedStores [.Tuple [.Name x px, .Name y py, .Name z pz] kt pt] (.Tuple [a, b, c'] k2 pt2) X.env = pure (some [x, y, z]))
    (hs : swapsWithSole [.Tuple [.Name x px, .Name y py, .Name z pz] kt pt] (.Tuple [a, b, c'] k2 pt2) pos.line X.env = pure false) :
    PS X (.Assign [.Tuple [.Name x px, .Name y py, .Name z pz] kt pt] (.Tuple [a, b, c'] k2 pt2) pos) (tS X.K W ((f >>= fun ds => ofO (mkT ds)) >>= fun d => bindM (.tp [.nm i, .nm j, .nm k]) d >>= fun _ => Pure.pure .nx)) := by
  refine PS.imp (ps_par3 hc hN hi hj hk hij hik hjk hx hy hz ha hw hs) fun E σ H ⟨st, c, A, h⟩ => ?_
  have h : SatS X.K W c (((f st).bind fun ds => ofO (mkT ds)).bind fun d => (fun s => (bindM (.tp [.nm i, .nm j, .nm k]) d s).bind fun _ s => .ok .nx s)) E := h
  rw [R.bind_assoc] at h
  refine ⟨st, c, A, (SatS.bind (RpL X.K) h).imp fun vs H1 ⟨st1, c1, ds, l, A1, r, h1⟩ => ?_⟩
  cases em : mkT ds with
  | none => rw [em] at h1; exact h1.elim
  | some z =>
    obtain ⟨rfl, hl⟩ := mkT_some em
    rw [em] at h1
    have h2 : SatS X.K W c1 ((bindM (.tp [.nm i, .nm j, .nm k]) (.tup ds) st1).bind fun _ s => .ok .nx s) E := h1
    unfold bindM at h2
    split at h2
    · rename_i sl e1
      rw [bindT] at e1
      have hlen := bindTs_length e1
      match ds, hlen, e1, r with
      | [d1, d2, d3], _, e1, r =>
        rw [bindTs, bindT] at e1
        split at e1
        · rename_i sl1 e2
          split at e2
          · rename_i h3
            cases e2
            rw [bindTs, bindT] at e1
            split at e1
            · rename_i sl2 e4
              split at e4
              · rename_i h5
                cases e4
                rw [bindTs, bindT] at e1
                split at e1
                · rename_i sl3 e6
                  split at e6
                  · rename_i h7
                    cases e6
                    rw [bindTs] at e1
                    cases e1
                    simp only [RpL] at r
                    obtain ⟨v, r1, rfl, rv, w, r2, rfl, rw', u, r3, rfl, ru, rfl⟩ := r
                    refine ⟨v, w, u, rfl, SatS.nx (s := { st1 with sl := ((st1.sl.set i (.fz d1)).set j (.fz d2)).set k (.fz d3) }) h2 ?_⟩
                    exact ((A1.setFz h3 rv).setFz (st := { st1 with sl := st1.sl.set i (.fz d1) }) h5 rw').setFz (st := { st1 with sl := (st1.sl.set i (.fz d1)).set j (.fz d2) }) h7 ru
                  · cases e6
                · cases e1
              · cases e4
            · cases e1
          · cases e2
        · cases e1
    · exact h2.elim
/-- an expression, its value dropped -/
theorem rs_expr {f : M D} (he : PE X e (tD X.K W f)) (hs : swapsWith e none pos.line X.env = pure false) : PS X (.Expr e pos) (tS X.K W (f >>= fun _ => Pure.pure .nx)) := by
  refine PS.imp (ps_expr he hs) fun E σ H ⟨st, c, A, h⟩ => ?_
  exact tD_st A h fun v H1 st1 c1 d l A1 r h1 => SatS.nx (s := st1) h1 A1
theorem rs_doc {x j pos'} : PS X (.Expr (.Constant (.str x) j pos') pos) (tS X.K W (Pure.pure .nx)) := PS.imp ps_doc fun E σ H ⟨st, c, A, h⟩ => SatS.nx (s := st) h A
theorem rs_pass : PS X (.Pass pos) (tS X.K W (Pure.pure .nx)) := PS.imp ps_pass fun E σ H ⟨st, c, A, h⟩ => SatS.nx (s := st) h A
theorem rs_break : PS X (.Break pos) (tS X.K W (Pure.pure .bk)) := PS.imp ps_break fun E σ H ⟨st, c, A, h⟩ => (show SatS X.K W c (.ok .bk st) E from h) c σ H (Le.refl c) A
theorem rs_cont : PS X (.Continue pos) (tS X.K W (Pure.pure .ct)) := PS.imp ps_continue fun E σ H ⟨st, c, A, h⟩ => (show SatS X.K W c (.ok .ct st) E from h) c σ H (Le.refl c) A
theorem rs_ret {f : M D} (he : PE X e (tD X.K W f)) : PS X (.Return (some e) pos) (tS X.K W (f >>= fun d => Pure.pure (.rt d))) := by
  refine PS.imp (ps_ret he) fun E σ H ⟨st, c, A, h⟩ => ?_
  exact tD_st A h fun v H1 st1 c1 d l A1 r h1 => (show SatS X.K W c1 (.ok (.rt d) st1) E from h1) c1 σ v H1 (Le.refl c1) A1 r
theorem rs_retN : PS X (.Return none pos) (tS X.K W (Pure.pure (.rt .non))) := PS.imp ps_retN fun E σ H ⟨st, c, A, h⟩ => (show SatS X.K W c (.ok (.rt .non) st) E from h) c σ .non H (Le.refl c) A (by simp only [Rp])
theorem rs_never {s : Stmt} {f : M Fl} (hf : ∀ st, f st = .no) : PS X s (tS X.K W f) := PS.imp ps_never fun E σ H ⟨st, c, A, h⟩ => by
  rw [hf] at h
  exact h
theorem rs_if {t : Expr} {p q : List Stmt} {f : M Bool} {g h : M Fl} (ht : PT X t (tT X.K W f)) (hp : PSs X p (tS X.K W g)) (hq : PSs X q (tS X.K W h)) : PS X (.If t p q pos) (tS X.K W (f >>= fun k => if k then g else h)) := by
  refine PS.imp (ps_if ht hp hq) fun E σ H ⟨st, c, A, h⟩ => ?_
  refine tT_st A h fun k H1 st1 c1 l A1 h1 => ?_
  cases k with
  | true => exact ⟨st1, c1, A1, h1⟩
  | false => exact ⟨st1, c1, A1, h1⟩
theorem rs_nil : PSs X [] (tS X.K W (Pure.pure .nx)) := PSs.imp pss_nil fun E σ H ⟨st, c, A, h⟩ => SatS.nx (s := st) h A
def thenM (f g : M Fl) : M Fl := f >>= fun k => match k with
    | .nx => g
    | .rt x => Pure.pure (.rt x)
    | .bk => Pure.pure .bk
    | .ct => Pure.pure .ct
theorem thenM_ap (f g : M Fl) (st : S) : thenM f g st = (f st).bind fun k s => match k with
    | .nx => g s
    | .rt x => .ok (.rt x) s
    | .bk => .ok .bk s
    | .ct => .ok .ct s := by
  show (f st).bind _ = _
  congr 1
  funext k s
  cases k <;> rfl
theorem rs_cons {s : Stmt} {ss : List Stmt} {f g : M Fl} (h1 : PS X s (tS X.K W f)) (h2 : PSs X ss (tS X.K W g)) : PSs X (s :: ss) (tS X.K W (thenM f g)) := by
  refine PSs.imp (pss_cons h1 h2) fun E σ H ⟨st, c, A, h⟩ => ⟨st, c, A, ?_⟩
  rw [thenM_ap] at h
  cases ef : f st with
  | ok k s =>
    rw [ef] at h
    cases k with
    | nx => exact fun c' σ' H' l A' => ⟨s, c', A', SatS.mono (show SatS X.K W c (g s) E from h) l⟩
    | rt x => exact h
    | bk => exact h
    | ct => exact h
  | ex x s => rw [ef] at h; exact h
  | no => rw [ef] at h; exact h
/-! ### stores into lists -/
theorem rs_sto (hu : X.A.units + 64 < cLine) {i : Nat} {x : Str} {k v : Expr} {fk fv : M D} {p1 p2 : Pos} (hN : X.N[i]? = some x) (hv : Vis X.env.scope x) (hd : (x == ("__debug__" : Str)) = false) (hcd : (x == ("__classdict__" : Str)) = false) (he : PE X v (tD X.K W fv)) (hk : PE X k (tD X.K W fk))
    (hs : swapsWithSole [.Subscript (.Name x p1) k p2] v pos.line X.env = pure false) (hw : swappedStores [.Subscript (.Name x p1) k p2] v X.env = pure none) (h1 : (assignEach [.Subscript (.Name x p1) k p2] X.env).map (·.2) = [assign (.Subscript (.Name x p1) k p2) X.env])
    (hns : ∀ l u p, k ≠ .Slice l u none p) :
    PS X (.Assign [.Subscript (.Name x p1) k p2] v pos) (tS X.K W (fv >>= fun y => hasM i >>= fun _ => fk >>= fun z => stoM i z y >>= fun _ => Pure.pure .nx)) := by
  have ha : ∀ v, assign (.Subscript (.Name x p1) k p2) X.env v = (do
      let ov ← holding [v] (eval (.Name x p1) X.env)
      let iv ← holding [v, ov] (eval k X.env)
      standAt p2
      holding [v, ov, iv] (setItem ov iv v)
      release [v, ov, iv] []) := by
    intro v
    cases k with
    | Slice l u s p =>
      cases s with
      | none => exact (hns l u p rfl).elim
      | some s => rfl
    | _ => rfl
  refine PS.imp (ps_asg he (pg_sub (pe_var hN hv hd hcd) hk (set_own hu) ha) hs hw h1) fun E σ H ⟨st, c, A, h⟩ => ?_
  refine tD_st A h fun yv H1 st1 c1 y l1 A1 r1 h1 => ?_
  show ∃ o, σ[i]? = some (some o) ∧ tD X.K W fk σ H1 fun kv H2 => rSetO X.K o kv yv H2 fun H3 => E.nx σ H3
  have hkk : ∀ o, σ[i]? = some (some o) → SatS X.K W c1 ((fk st1).bind fun z s => (stoM i z y s).bind fun _ s => .ok .nx s) E → tD X.K W fk σ H1 fun kv H2 => rSetO X.K o kv yv H2 fun H3 => E.nx σ H3 := fun o eo h1 => by
    refine tD_st A1 h1 fun zv H2 st2 c2 z l2 A2 r2 h2 => ?_
    unfold stoM at h2
    split at h2
    · rename_i ds es
      obtain ⟨a, ds', xs, e1, e2, e3, rl⟩ := A2.own es
      cases e2
      rw [eo] at e1
      cases e1
      split at h2
      · rename_i z
        simp only [Rp] at r2
        split at h2
        · rename_i j ej
          rw [rl.length] at ej
          exact .inl ⟨a, xs, z, j, rfl, r2, e3, ej, SatS.nx (s := { st2 with sl := st2.sl.set i (.ow (.lst (ds.set j y))) }) h2 (A2.write es eo (rl.set (r1.mono l2 _ _) j))⟩
        · exact h2.elim
      · exact h2.elim
    · rename_i t kvs es
      split at h2
      · rename_i hq
        rw [Bool.and_eq_true, decide_eq_true_eq] at hq
        obtain ⟨a, e1, o2⟩ := A2.sl i _ es
        rw [eo] at e1
        cases e1
        exact .inr ⟨c2, a, t, kvs, z, y, A2.fH, o2.at_, rfl, hq.1, r2, r1.mono l2 _ _, hq.2, fun ob hob => SatS.nx (s := { st2 with sl := st2.sl.set i (.ow (dct t (dPut kvs z y))) }) h2 (A2.writeO es eo hob)⟩
      · exact h2.elim
    · rename_i n es
      obtain ⟨ov, e1, rr⟩ := A2.sl i _ es
      rw [eo] at e1
      cases e1
      simp only [Rp] at rr
      obtain ⟨a, rfl, ea⟩ := rr
      split at h2
      · rename_i ds z esh
        obtain ⟨a', e2, o2⟩ := A2.sh n _ esh
        rw [ea] at e2
        cases e2
        obtain ⟨_, _, xs, e4, rl⟩ := o2
        simp only [Rp] at r2
        split at h2
        · rename_i j ej
          rw [rl.length] at ej
          exact .inl ⟨a, xs, z, j, rfl, r2, e4, ej, SatS.nx (s := { st2 with sh := st2.sh.set n (.lst (ds.set j y)) }) h2 (A2.shSet ea (rl.set (r1.mono l2 _ _) j))⟩
        · exact h2.elim
      · exact h2.elim
    · exact h2.elim
  have h0 : SatS X.K W c1 ((hasM i st1).bind fun _ s => (fk s).bind fun z s => (stoM i z y s).bind fun _ s => .ok .nx s) E := h1
  unfold hasM at h0
  split at h0
  · rename_i d es
    obtain ⟨o, eo, _⟩ := A1.sl i _ es
    exact ⟨o, eo, hkk o eo h0⟩
  · rename_i d es
    obtain ⟨o, eo, _⟩ := A1.sl i _ es
    exact ⟨_, eo, hkk _ eo h0⟩
  · exact h0.elim
end
end Pv

set_option maxRecDepth 100000
/-! Pv.Lst: append, pop; for, while. -/
namespace Pv
open PySem PySem.Spec L2
section
variable {X : Cx} {W : Ws} {pos : Pos} {e a b : Expr}
theorem ownM_st {K : PySem.W.Frag} {c : Gh} {st : S} {σ : St} {H : Hp} (A : Abs K c st σ H) {i : Nat} {r : R Unit} (h : ownM i st = r) (hr : r ≠ .no) : r = .ok () st ∧ ∃ a xs, σ[i]? = some (some (.ref a)) ∧ H a = some (.lst xs) := by
  unfold ownM at h
  split at h
  · rename_i ds es
    obtain ⟨a, ds', xs, e1, e2, e3, rl⟩ := A.own es
    exact ⟨h.symm, a, xs, e1, e3⟩
  · exact (hr h.symm).elim
theorem rs_app {i : Nat} {x : Str} {f : M D} {p1 apos cpos : Pos} (hN : X.N[i]? = some x) (hv : Vis X.env.scope x) (hd : (x == ("__debug__" : Str)) = false) (hcd : (x == ("__classdict__" : Str)) = false) (he : PE X e (tD X.K W f))
    (hs : starEach [e] X.env = [(false, eval e X.env)]) (hline : (apos.endLine == cpos.line) = true) :
    PS X (.Expr (.Call (.Attribute (.Name x p1) "append" apos) [e] [] cpos) pos) (tS X.K W (ownM i >>= fun _ => f >>= fun d => appM i d >>= fun _ => Pure.pure .nx)) := by
  have hc : PE X (.Call (.Attribute (.Name x p1) "append" apos) [e] [] cpos) (tBM X.K "list" rAppend (tVar i) (tCons (tD X.K W f) tNil)) :=
    pe_bm PySem.F.plainAttrs_list PySem.F.slot_list_append PySem.F.type_list_append mt_append (pe_var hN hv hd hcd) (pa_cons he pa_nil (by rw [hs]; rfl)) rfl (by rw [hs]; rfl) hline (by rw [hs]; rfl) rfl
  refine PS.imp (ps_expr hc rfl) fun E σ H ⟨st, c, A, h⟩ => ?_
  have h0 : SatS X.K W c ((ownM i st).bind fun _ s => (f s).bind fun d s => (appM i d s).bind fun _ s => .ok .nx s) E := h
  obtain ⟨e0, ad, xs0, e1, e2⟩ := ownM_st A rfl (fun z => by rw [z] at h0; exact h0)
  rw [e0] at h0
  refine ⟨.ref ad, e1, .inl ⟨rfl, xs0, .inl (.inl e2)⟩, ?_⟩
  show tD X.K W f σ H fun v H1 => rAppend (.ref ad) [v] H1 fun _ H2 => E.nx σ H2
  refine tD_st A h0 fun v H1 st1 c1 d l A1 r h1 => ?_
  unfold appM at h1
  split at h1
  · rename_i ds es
    obtain ⟨a, ds', xs, e3, e4, e5, rl⟩ := A1.own es
    cases e4
    rw [e1] at e3
    cases e3
    split at h1
    · rename_i hl
      exact ⟨ad, xs, v, rfl, rfl, e5, rl.length ▸ hl, SatS.nx (s := { st1 with sl := st1.sl.set i (.ow (.lst (ds ++ [d]))) }) h1 (A1.write es e1 (rl.append (RpL.one r)))⟩
    · exact h1.elim
  · exact h1.elim
theorem rl_pop {i : Nat} {x : Str} {p1 apos : Pos} (hN : X.N[i]? = some x) (hv : Vis X.env.scope x) (hd : (x == ("__debug__" : Str)) = false) (hcd : (x == ("__classdict__" : Str)) = false) (hline : (apos.endLine == pos.line) = true) :
    PE X (.Call (.Attribute (.Name x p1) "pop" apos) [] [] pos) (tD X.K W (popM i)) := by
  refine PE.imp (pe_bm0 PySem.F.plainAttrs_list PySem.F.slot_list_pop PySem.F.type_list_pop mt_pop (pe_var hN hv hd hcd) rfl hline) fun σ H Q ⟨st, c, A, h⟩ => ?_
  unfold popM at h
  split at h
  · rename_i ds es
    obtain ⟨a, ds', xs, e3, e4, e5, rl⟩ := A.own es
    cases e4
    split at h
    · rename_i z ez
      obtain ⟨v, ev, rv⟩ := rl.get ez
      refine ⟨.ref a, e3, .inl ⟨rfl, xs, .inl (.inl e5)⟩, a, xs, v, rfl, rfl, e5, rl.length ▸ ev, h.now (A.write es e3 rl.dropLast) rv⟩
    · exact h.elim
  · exact h.elim
theorem rl_popAt {i : Nat} {x : Str} {f : M D} {p1 apos : Pos} (hN : X.N[i]? = some x) (hv : Vis X.env.scope x) (hd : (x == ("__debug__" : Str)) = false) (hcd : (x == ("__classdict__" : Str)) = false) (he : PE X e (tD X.K W f))
    (hs : starEach [e] X.env = [(false, eval e X.env)]) (hline : (apos.endLine == pos.line) = true) :
    PE X (.Call (.Attribute (.Name x p1) "pop" apos) [e] [] pos) (tD X.K W (ownM i >>= fun _ => f >>= popAtD i)) := by
  refine PE.imp (pe_bm PySem.F.plainAttrs_list PySem.F.slot_list_pop PySem.F.type_list_pop mt_popAt (pe_var hN hv hd hcd) (pa_cons he pa_nil (by rw [hs]; rfl)) rfl (by rw [hs]; rfl) hline (by rw [hs]; rfl) rfl) fun σ H Q ⟨st, c, A, h⟩ => ?_
  have h0 : Sat X.K W c σ ((ownM i st).bind fun _ s => (f s).bind fun d s => popAtD i d s) (Rp X.K) Q := h
  obtain ⟨e0, ad, xs0, e1, e2⟩ := ownM_st A rfl (fun z => by rw [z] at h0; exact h0)
  rw [e0] at h0
  refine ⟨.ref ad, e1, .inl ⟨rfl, xs0, .inl (.inl e2)⟩, ?_⟩
  show tD X.K W f σ H fun v H1 => rPopAt (.ref ad) [v] H1 Q
  refine tD_on A h0 fun v H1 st1 c1 d l A1 r h1 => ?_
  cases d with
  | int k =>
    simp only [Rp] at r
    have h2 : Sat X.K W c1 σ (popAtM i k st1) (Rp X.K) Q := h1
    unfold popAtM at h2
    split at h2
    · rename_i ds es
      obtain ⟨a, ds', xs, e3, e4, e5, rl⟩ := A1.own es
      cases e4
      rw [e1] at e3
      cases e3
      split at h2
      · rename_i j ej
        split at h2
        · rename_i z ez
          split at h2
          · rename_i hk
            obtain ⟨v', ev, rv⟩ := rl.get ez
            rw [rl.length] at ej
            obtain ⟨q1, q2⟩ := ixN_seq ej
            have := idx62_iff hk
            exact ⟨ad, xs, k, j, v', rfl, by rw [r], e5, by omega, by omega, q1, ev, h2.now (A1.write es e1 (rl.eraseIdx j)) rv⟩
          · exact h2.elim
        · exact h2.elim
      · exact h2.elim
    · exact h2.elim
  | _ => exact h1.elim
/-! ### for -/
theorem forL_cons (f : D → M Fl) (d : D) (ds : List D) (s : S) : forL f (d :: ds) s = (f d s).bind fun k s => match k with
    | .nx => forL f ds s
    | .ct => forL f ds s
    | .bk => .ok .nx s
    | .rt x => .ok (.rt x) s := by
  show (f d s).bind _ = _
  congr 1
  funext k s
  cases k <;> rfl
theorem for_sat {K : PySem.W.Frag} {c1 : Gh} {st1 : S} {σ : St} {H1 : Hp} {J : It} {items : List D} {t : Tg} {fB : M Fl} {E : Ends} (A1 : Abs K c1 st1 σ H1) (hJ : Come K c1 items J)
    (h : SatS K W c1 (forL (fun d => bindM t d >>= fun _ => fB) items st1) E) :
    ∃ W' : Nat → Nat → St → Hp → Prop, (∃ m, W' 0 m σ H1) ∧ ∀ i m σ H, W' i m σ H →
      (J.stop i H ∧ E.nx σ H) ∨ (J.go i H ∧ ∃ N : St → Hp → Prop, (∀ σ' H', N σ' H' → ∃ m', m' < m ∧ W' (i + 1) m' σ' H') ∧ ∀ x H', J.yld i H x H' → gTg K t x σ H' fun σ2 H2 => tS K W fB { E with nx := N, ct := N, bk := E.nx } σ2 H2) := by
  obtain ⟨G, Y, wk, hG, hY⟩ := hJ
  let tu : D → M Fl := fun d => bindM t d >>= fun _ => fB
  let Pv' : Nat → St → Hp → Prop := fun i σ H => ∃ (stx : S) (c : Gh), Le c1 c ∧ Abs K c stx σ H ∧ SatS K W c (forL tu (items.drop i) stx) E
  refine for_it wk Pv' ⟨st1, c1, Le.refl c1, A1, h⟩ ?_ ?_ ?_
  · rintro i σ H - ⟨stx, c, l, A, -⟩
    exact hG c H l.toF A.fH
  · rintro i x σ H H' hi ⟨stx, c, l, A, hs⟩ y
    have ed : items[i]? = some items[i] := List.getElem?_eq_getElem hi
    generalize items[i] = d at ed
    have ed' : items.drop i = d :: items.drop (i + 1) := by
      rw [List.drop_eq_getElem_cons hi]
      have := List.getElem?_eq_some_iff.mp ed
      rw [this.2]
    rw [ed', forL_cons] at hs
    obtain ⟨ch, lh, Ah, rh⟩ := (hY c i H x H' l.toF A.fH y d ed).abs A
    have e1 : tu d stx = (bindM t d stx).bind fun _ s => fB s := rfl
    rw [e1, R.bind_assoc] at hs
    unfold bindM at hs
    split at hs
    · rename_i sl e2
      refine ⟨ch, stx, d, sl, Ah, rh, e2, fun σ' sm A' => ⟨{ stx with sl := sl }, ch, A', ?_⟩⟩
      have hs : SatS K W c ((fB { stx with sl := sl }).bind fun k s => match k with
        | .nx => forL tu (items.drop (i + 1)) s
        | .ct => forL tu (items.drop (i + 1)) s
        | .bk => .ok .nx s
        | .rt x => .ok (.rt x) s) E := hs
      have hs := hs.mono lh
      cases ef : fB { stx with sl := sl } with
      | ok k s =>
        rw [ef] at hs
        cases k with
        | nx => exact fun c' σ2 H2 l2 A2 => ⟨s, c', (l.trans lh).trans l2, A2, SatS.mono (show SatS K W ch (forL tu (items.drop (i + 1)) s) E from hs) l2⟩
        | ct => exact fun c' σ2 H2 l2 A2 => ⟨s, c', (l.trans lh).trans l2, A2, SatS.mono (show SatS K W ch (forL tu (items.drop (i + 1)) s) E from hs) l2⟩
        | bk => exact hs
        | rt x => exact hs
      | ex x s => rw [ef] at hs; exact hs
      | no => rw [ef] at hs; exact hs
    · exact hs.elim
  · rintro σ H ⟨stx, c, l, A, hs⟩
    rw [List.drop_length] at hs
    exact SatS.nx (s := stx) hs A
theorem rs_for {tg iter : Expr} {body : List Stmt} {t : Tg} {fT : M (List D)} {fB : M Fl} (hp : PassesOwn (model X.prog X.w) X.A X.env X.xe) (hc : X.calm = true) (hi : PI X tg iter (tI X.K W fT)) (hg : PG X tg (gTg X.K t)) (hb : PSs X body (tS X.K W fB))
    (hs : ∀ x, foldedSetIterable iter X.env x = pure x) : PS X (.For tg iter body [] pos) (tS X.K W (fT >>= fun items => forL (fun d => bindM t d >>= fun _ => fB) items)) := by
  refine PS.imp (ps_for hp hc hi hg hb hs) fun E σ H ⟨st, c, A, h⟩ => ?_
  exact ⟨st, c, A, (SatS.bind (Come X.K) h).imp fun J H1 ⟨st1, c1, items, l1, A1, hJ, h1⟩ => for_sat A1 hJ h1⟩
theorem whlL_succ (c : M Bool) (b : M Fl) (n : Nat) (s : S) : whlL c b (n + 1) s = (c s).bind fun k s => if k then (b s).bind fun k s => match k with
      | .nx => whlL c b n s
      | .ct => whlL c b n s
      | .bk => .ok .nx s
      | .rt x => .ok (.rt x) s
    else .ok .nx s := by
  show (c s).bind _ = _
  congr 1
  funext k s
  cases k with
  | true =>
    show (b s).bind _ = (b s).bind _
    congr 1
    funext k s
    cases k <;> rfl
  | false => rfl
theorem rs_whl {t : Expr} {body : List Stmt} {fC : M Bool} {fB : M Fl} {n : Nat} (hp : PassesOwn (model X.prog X.w) X.A X.env X.xe) (ht : PT X t (tT X.K W fC)) (hb : PSs X body (tS X.K W fB)) : PS X (.While t body [] pos) (tS X.K W (whlL fC fB n)) := by
  refine PS.imp (ps_while hp ht hb) fun E σ H ⟨st, c, A, h⟩ => ?_
  refine ⟨fun m σ H => ∃ st c, Abs X.K c st σ H ∧ SatS X.K W c (whlL fC fB m st) E, ⟨n, st, c, A, h⟩, ?_⟩
  rintro m σ H ⟨st, c, A, h⟩
  cases m with
  | zero => exact h.elim
  | succ m =>
    rw [whlL_succ] at h
    refine tT_st A h fun k H1 st1 c1 l1 A1 h1 => ?_
    cases k with
    | false =>
      rw [if_neg (by decide)]
      exact SatS.nx (s := st1) h1 A1
    | true =>
      rw [if_pos rfl]
      refine ⟨fun σ' H' => ∃ st c, Abs X.K c st σ' H' ∧ SatS X.K W c (whlL fC fB m st) E, fun σ' H' q => ⟨m, Nat.lt_succ_self m, q⟩, st1, c1, A1, ?_⟩
      have h2 : SatS X.K W c1 ((fB st1).bind fun k s => match k with
        | .nx => whlL fC fB m s
        | .ct => whlL fC fB m s
        | .bk => .ok .nx s
        | .rt x => .ok (.rt x) s) E := h1
      cases ef : fB st1 with
      | ok k s =>
        rw [ef] at h2
        cases k with
        | nx => exact fun c' σ2 H2 l2 A2 => ⟨s, c', A2, SatS.mono (show SatS X.K W c1 (whlL fC fB m s) E from h2) l2⟩
        | ct => exact fun c' σ2 H2 l2 A2 => ⟨s, c', A2, SatS.mono (show SatS X.K W c1 (whlL fC fB m s) E from h2) l2⟩
        | bk => exact h2
        | rt x => exact h2
      | ex x s => rw [ef] at h2; exact h2
      | no => rw [ef] at h2; exact h2
end
end Pv

set_option maxRecDepth 100000
/-! Pv.Dic2: {}, dict(e), d.get(k, x), a, b = e, f with things of their own. -/
namespace Pv
open PySem PySem.Spec L2
theorem M.assoc {α β γ : Type} (m : M α) (f : α → M β) (g : β → M γ) : ((m >>= f) >>= g) = (m >>= fun a => f a >>= g) := by
  funext s
  simp only [M.bind_ap]
  cases m s <;> rfl
theorem M.pbind {α β : Type} (a : α) (f : α → M β) : ((Pure.pure a : M α) >>= f) = f a := rfl
section
variable {X : Cx} {W : Ws} {pos : Pos} {e a b : Expr}
/-! ### {} -/
theorem dicO_empty (X : Cx) {P : Program} {w : World} {H : Hp} (h : Heap) (hb : sysModules < h.objs.size) : ObjOk P w H (h.push { cls := .type "dict", data := .dict #[] }) h.objs.size (DicO h.objs.size []) :=
  dicO_ok (X := X) (c := ⟨fun _ => none, fun _ => none, []⟩) (kvs := []) rfl (Heap.DictOfH.new h) (Nat.zero_le _) (beq_eq_false_iff_ne.mpr (Ne.symm (Nat.ne_of_lt hb)))
def tDNewN : TE := fun _ H Q => ∀ p, H p = none → Q (.ref p) (upd H p (DicO p []))
theorem pe_dnewN : PE X (.Dict [] [] pos) tDNewN := ⟨fun pins s σ H Q I h =>
  wpAny_Dict_empty ⟨.ref s.heap.objs.size, _, I.laid (a := s.heap.objs.size) (o := DicO s.heap.objs.size []) (t' := s.toks) (fun _ _ q => Heap.get?_push_of_some _ q) (Nat.le_refl _) (dicO_empty X s.heap I.big), rfl, h _ (I.hok.fresh (Nat.le_refl _))⟩⟩
/-- a new dict, of the kind that is wanted -/
def tNew (K : PySem.W.Frag) (t : Bool) : TE := fun _ H Q => ∀ c p o, H p = none → OwnIs K c (upd H p o) p (dct t []) → Q (.ref p) (upd H p o)
theorem pe_dnew {t : Bool} : PE X (.Dict [] [] pos) (tNew X.K t) := by
  cases t with
  | false => exact PE.imp pe_dnewK fun σ H Q h p hp => h ⟨fun _ => none, fun _ => none, []⟩ p _ hp ⟨[], upd_same, rfl⟩
  | true => exact PE.imp pe_dnewN fun σ H Q h p hp => h ⟨fun _ => none, fun _ => none, []⟩ p _ hp ⟨[], upd_same, rfl⟩
/-! ### dict(e) -/
section
variable {pins : List (Addr × Obj)} {σ : St} {H : Hp} {s : Shared} {c : Gh}
theorem pairRowsN (I : L2.Inv X pins σ H s) (hF : ∀ a o, c.F a = some o → H a = some o) : ∀ {ds : List D} {kvs : List (D × D)} {xs : List V} {us : List Value}, pairsOf ds = some kvs → RpL X.K c ds xs → Vals xs us → (∀ p ∈ kvs, keyFit true p.1 = true) →
    ∃ (as : List Addr) (ps : List (NestedKey × Addr × Value)), us = as.map Value.ref ∧ as.length = ps.length ∧ KTp X.K c kvs ps ∧ ∀ (i : Nat) b p, as[i]? = some b → ps[i]? = some p → s.heap.IsTuple b #[.ref p.2.1, p.2.2]
  | [], kvs, xs, us, e, r, v, _ => by
    cases e
    simp only [RpL] at r
    subst r; cases v
    exact ⟨[], [], rfl, rfl, rfl, fun i d p e => by simp at e⟩
  | d :: ds, kvs, xs, us, e, r, v, hk => by
    simp only [RpL] at r
    obtain ⟨y, ys, rfl, r1, r2⟩ := r
    cases v with
    | cons v1 v2 =>
      unfold pairsOf at e
      split at e
      · cases ‹_ :: _ = []›
      · rename_i k x ds' eq
        cases eq
        cases e1 : pairsOf ds with
        | none => rw [e1] at e; cases e
        | some kvs' =>
          rw [e1] at e
          cases e
          obtain ⟨as, ps, f1, f2, f3, f4⟩ := pairRowsN I hF e1 r2 v2 (fun d hd => hk d (by simp [hd]))
          have kf := hk (k, x) (by simp)
          simp only [Rp] at r1
          obtain ⟨b, zs, rfl, hq, rl⟩ := r1
          cases v1
          simp only [RpL] at rl
          obtain ⟨y1, t1, rfl, q1, y2, t2, rfl, q2, rfl⟩ := rl
          obtain ⟨its, rv, pl, hz⟩ := I.tuple (sqT_mono hF hq)
          obtain ⟨kds, rfl, _, _⟩ := fit_true kf
          have q1' := q1
          simp only [Rp] at q1'
          obtain ⟨a2, zs2, rfl, _⟩ := q1'
          cases rv with
          | cons w1 w2 =>
            cases w2 with
            | cons w2 w3 =>
              cases w3
              cases w1
              rename_i u2
              refine ⟨b :: as, (nk (.tup kds), a2, u2) :: ps, by rw [f1]; rfl, by simp [f2], ⟨_, _, rfl, kf, rfl, q1, ⟨_, w2, q2⟩, f3⟩, fun i b' p g1 g2 => ?_⟩
              cases i with
              | zero =>
                simp only [List.getElem?_cons_zero, Option.some.injEq] at g1 g2
                subst g1 g2
                obtain ⟨o, g1, g2, n', g3⟩ := pl
                exact ⟨o, g1, g2, n', g3⟩
              | succ i =>
                rw [List.getElem?_cons_succ] at g1 g2
                exact f4 i b' p g1 g2
      · cases e
theorem kt_fold : ∀ {kvs : List (D × D)} {ps : List (NestedKey × Addr × Value)} {acc : List (D × D)} {xs : List (NestedKey × Addr × Value)}, KTp X.K c kvs ps → KTp X.K c acc xs → KTp X.K c (kvs.foldl (fun acc p => dPut acc p.1 p.2) acc) (storedAllH xs ps)
  | [], ps, acc, xs, h, h' => by cases h; exact h'
  | p :: kvs, _, acc, xs, ⟨q, r, e, f1, e1, r1, ⟨v, rv, r3⟩, r2⟩, h' => by
    subst e
    have := kt_put f1 r1 h' rv r3
    rw [← e1] at this
    have z := kt_fold r2 this
    exact z
end
/-- dict(xs) -/
def rDicN (K : PySem.W.Frag) : List V → Hp → VK → Prop := fun xs H Q => ∃ (c : Gh) (d z : D) (x : V), xs = [x] ∧ (∀ a o, c.F a = some o → H a = some o) ∧ Rp K c d x ∧ dMake d = some z ∧
  ∀ p o, H p = none → OwnIs K c (upd H p o) p z → Q (.ref p) (upd H p o)
theorem cr_dicN (hc : X.calm = true) (hu : X.A.units + 64 < cLine) : CallR X (.type "dict") (rDicN X.K) := by
  intro pins s σ H xs us Q I r ⟨c, d, z, x, e, hF, hv, hz, q⟩
  subst e
  obtain ⟨u, rfl, ru⟩ := vals1 r
  unfold dMake at hz
  split at hz
  · rename_i ds
    cases hp : pairsOf ds with
    | none => rw [hp] at hz; cases hz
    | some kvs =>
      rw [hp] at hz
      have hz : (if (kvs.all (fun p => keyFit true p.1) && decide (kvs.length ≤ sizeLine)) = true then some (dct true (kvs.foldl (fun acc p => dPut acc p.1 p.2) [])) else none) = some z := hz
      split at hz
      · rename_i hq
        rw [Bool.and_eq_true, decide_eq_true_eq, List.all_eq_true] at hq
        cases hz
        simp only [Rp] at hv
        obtain ⟨l, vs, rfl, hs, rl⟩ := hv
        cases ru
        obtain ⟨its, rv, pl, hl⟩ := I.list (sqL_mono hF hs)
        obtain ⟨as, ps, e1, e2, e3, e4⟩ := pairRowsN I hF hp rl rv hq.1
        subst e1
        have kat := kt_keys I hF e3
        have nst : (nestedKind X.prog X.w).Stays := nestedKind_stays
        let qs : List (Value × Value) := ps.map fun p => (Value.ref p.2.1, p.2.2)
        let Ts : Nat → Addr := fun j => (as[j]?).getD 0
        have pit : PairItems s.heap (as.map Value.ref).toArray Ts qs := ⟨by simp [qs, e2], fun j k v hj => by
          simp only [qs, List.getElem?_map] at hj
          cases e : ps[j]? with
          | none => rw [e] at hj; cases hj
          | some p =>
            rw [e] at hj
            cases hj
            have hlt : j < as.length := by rw [e2]; exact (List.getElem?_eq_some_iff.mp e).1
            have ea : as[j]? = some as[j] := List.getElem?_eq_getElem hlt
            have hT : Ts j = as[j] := by simp only [Ts, ea, Option.getD_some]
            rw [hT]
            exact ⟨by simp [ea], .inl (e4 j _ p ea e)⟩⟩
        have hlen : ps.length ≤ sizeLine := by rw [← kt_len e3]; exact hq.2
        refine call_dict_pairsH (knd := nestedKind X.prog X.w) (ps := ps) (PairArg.list l (as.map Value.ref).toArray Ts qs) (I.ok.hd hc) ?_ ⟨?_, pit⟩ ⟨by simp [qs], ?_⟩ ?_ ?_ fun h' tk hd hk => ?_
        · show X.A.in1.in1.units + 8 < cLine
          have z1 : X.A.in1.in1.units = X.A.units + 2 := by simp
          omega
        · obtain ⟨o, n, g1, g2, g3, g4⟩ := pl
          exact ⟨o, n, g1, g2, g3, g4⟩
        · intro i key v hi
          have hi : qs[i]? = some (key, v) := hi
          simp only [qs, List.getElem?_map] at hi
          cases e : ps[i]? with
          | none => rw [e] at hi; cases hi
          | some p =>
            rw [e] at hi
            cases hi
            exact ⟨p.1, p.2.1, rfl, rfl⟩
        · intro h' hk x hx
          exact nst.stays (fun b o vs n e _ => hk b o (Nat.ne_of_lt (Heap.lt_size e)) (fun z => nomatch z) e) (kat x hx)
        · simp only [qs, List.length_map]
          exact hlen
        · have kf := kt_fold (acc := []) (xs := []) e3 rfl
          have hz2 : (storedAllH [] ps).length ≤ sizeLine := by
            have z := storedAllH_length ps ([] : List (NestedKey × Addr × Value))
            simp only [List.length_nil, Nat.zero_add] at z
            omega
          exact ⟨.ref _, upd H s.heap.objs.size (DicO s.heap.objs.size (storedAllH [] ps)), I.laid (t' := tk) (fun b u e => hk b u (fun z => nomatch z) e) (Nat.le_refl _) (dicO_ok kf hd hz2 (beq_eq_false_iff_ne.mpr (Nat.ne_of_gt I.big))), rfl, q _ _ (I.hok.fresh (Nat.le_refl _)) ⟨_, upd_same, kf⟩⟩
      · cases hz
  · cases hz
/-! ### stores of new things -/
theorem rs_dicNew {i : Nat} {x : Str} {t : Bool} {pos' p2 : Pos} (hN : X.N.Nodup) (hi : X.N[i]? = some x) (hx : Loc X.env.scope x) (hs : swapsWith (.Dict [] [] p2) (some (.Name x pos')) pos.line X.env = pure false) (hf : X.fn x = true ∨ X.env.scope.names.lookup x = some .local) :
    PS X (.Assign [.Name x pos'] (.Dict [] [] p2) pos) (tS X.K W ((Pure.pure (.ow (dct t [])) : M Sl) >>= fun x => setSl i x >>= fun _ => Pure.pure .nx)) := by
  refine PS.imp (ps_set hN hi hx (pe_dnew (t := t)) hs hf) fun E σ H ⟨st, c, A, h⟩ => ?_
  intro c2 p o hp ho
  have h3 : SatS X.K W c ((setSl i (.ow (dct t [])) st).bind fun _ s => .ok .nx s) E := h
  rw [setSl_ap] at h3
  split at h3
  · rename_i hl
    have ho' : OwnIs X.K c (upd H p o) p (dct t []) := by
      cases t with
      | false => obtain ⟨vs, e, rk⟩ := ho; cases rk; exact ⟨[], e, rfl⟩
      | true => obtain ⟨vs, e, rk⟩ := ho; cases rk; exact ⟨[], e, rfl⟩
    exact SatS.nx (s := { st with sl := st.sl.set i (.ow (dct t [])) }) h3 ((A.new hp).setOw hl ⟨A.fN hp, A.bN hp, ho'⟩ (A.noOwn_new hp))
  · exact h3.elim
theorem rs_dicMk {i : Nat} {x y : Str} {f : M D} {pos' q p2 : Pos} (hc : X.calm = true) (hu : X.A.units + 64 < cLine) (hN : X.N.Nodup) (hi : X.N[i]? = some x) (hx : Loc X.env.scope x) (hy : y = "dict") (hg : Gl X "dict") (hm : X.mg "dict" = none) (he : PE X e (tD X.K W f)) (hst : starEach [e] X.env = [(false, eval e X.env)])
    (hs : swapsWith (.Call (.Name y q) [e] [] p2) (some (.Name x pos')) pos.line X.env = pure false) (hf : X.fn x = true ∨ X.env.scope.names.lookup x = some .local) :
    PS X (.Assign [.Name x pos'] (.Call (.Name y q) [e] [] p2) pos) (tS X.K W ((f >>= fun d => ofO (dMake d) >>= fun z => Pure.pure (.ow z)) >>= fun x => setSl i x >>= fun _ => Pure.pure .nx)) := by
  subst hy
  have h1 : PE X (.Call (.Name "dict" q) [e] [] p2) _ := pe_callTy (cr_dicN hc hu) hg hm rfl (pa_cons he pa_nil (by rw [hst]; rfl)) (by decide) (by decide) (by rw [hst]; rfl) (by rfl)
  refine PS.imp (ps_set hN hi hx h1 hs hf) fun E σ H ⟨st, c, A, h⟩ => ?_
  rw [M.assoc] at h
  refine tD_st A h fun v H1 st1 c1 d l A1 r h1 => ?_
  have h2 : SatS X.K W c1 (((ofO (dMake d) st1).bind fun z s => (.ok (.ow z) s : R Sl)).bind fun x s => (setSl i x s).bind fun _ s => .ok .nx s) E := h1
  cases ez : dMake d with
  | none => rw [ez] at h2; exact h2.elim
  | some z =>
    rw [ez] at h2
    have h3 : SatS X.K W c1 ((setSl i (.ow z) st1).bind fun _ s => .ok .nx s) E := h2
    rw [setSl_ap] at h3
    split at h3
    · rename_i hl
      exact ⟨c1, d, z, v, rfl, A1.fH, r, ez, fun p o hp ho => SatS.nx (s := { st1 with sl := st1.sl.set i (.ow z) }) h3 ((A1.new hp).setOw hl ⟨A1.fN hp, A1.bN hp, ho⟩ (A1.noOwn_new hp))⟩
    · exact h3.elim
/-! ### d.get(k, x) -/
theorem rl_dget (hu : X.A.units + 64 < cLine) {i : Nat} {x : Str} {f g : M D} {p1 apos : Pos} (hN : X.N[i]? = some x) (hv : Vis X.env.scope x) (hd : (x == ("__debug__" : Str)) = false) (hcd : (x == ("__classdict__" : Str)) = false) (ha : PE X a (tD X.K W f)) (hb : PE X b (tD X.K W g)) (m : M2 X (.Name x p1) "get" apos a b pos) :
    PE X (.Call (.Attribute (.Name x p1) "get" apos) [a, b] [] pos) (tD X.K W (dicM i >>= fun _ => f >>= fun y => g >>= fun z => dgetM i y z)) := by
  refine PE.imp (pe_dget2 (by omega) (pe_var hN hv hd hcd) ha hb m) fun σ H Q ⟨st, c, A, h⟩ => ?_
  have h : Sat X.K W c σ ((dicM i st).bind fun _ s => (f s).bind fun y s => (g s).bind fun z s => dgetM i y z s) (Rp X.K) Q := h
  unfold dicM at h
  split at h
  · rename_i kvs es
    obtain ⟨p, e1, o⟩ := A.sl i _ es
    obtain ⟨vs, e2, rk⟩ := o.at_
    refine ⟨.ref p, e1, p, rfl, .inl ⟨vs, .inl e2⟩, ?_⟩
    have h : Sat X.K W c σ ((f st).bind fun y s => (g s).bind fun z s => dgetM i y z s) (Rp X.K) Q := h
    refine tD_on A h fun y H1 st1 c1 dy l1 A1 r1 h1 => ?_
    refine tD_on A1 h1 fun z H2 st2 c2 dz l2 A2 r2 h2 => ?_
    have h2 : Sat X.K W c2 σ (dgetM i dy dz st2) (Rp X.K) Q := h2
    unfold dgetM at h2
    split at h2
    · rename_i kvs2 es2
      obtain ⟨p2, e3, o2⟩ := A2.sl i _ es2
      rw [e1] at e3
      cases e3
      obtain ⟨vs2, e4, rk2⟩ := o2.at_
      split at h2
      · rename_i hk
        obtain ⟨q, eq⟩ := fit_false hk
        have r1' := r1.mono l2 _ _
        have ey := key_kV eq r1'
        subst ey
        refine ⟨_, DGet.k e4, ?_⟩
        rcases kv_look eq rk2 with ⟨g1, g2⟩ | ⟨d, v, g1, g2, rd⟩
        · rw [g2]; rw [g1] at h2; exact h2.now A2 r2
        · rw [g2]; rw [g1] at h2; exact h2.now A2 rd
      · exact h2.elim
    · exact h2.elim
  · exact h.elim
/-! ### a, b = e, f; b a list of its own -/
theorem rs_parFO {i j : Nat} {x y : Str} {f g : M D} {fr : Bool} {px py pt : Pos} {kt k2 pt2} (hc : X.calm = true) (hN : X.N.Nodup) (hi : X.N[i]? = some x) (hj : X.N[j]? = some y) (hij : i ≠ j)
    (hx : X.env.scope.names.lookup x = some .local) (hy : X.env.scope.names.lookup y = some .local) (ha : PE X a (tD X.K W f)) (hb : PE X b (tF X.K W g)) (h1 : starEach [a, b] X.env = (false, eval a X.env) :: starEach [b] X.env) (h2 : starEach [b] X.env = (false, eval b X.env) :: starEach [] X.env)
    (hw : swappedStores [.Tuple [.Name x px, .Name y py] kt pt] (.Tuple [a, b] k2 pt2) X.env = pure (some [x, y]))
    (hs : swapsWithSole [.Tuple [.Name x px, .Name y py] kt pt] (.Tuple [a, b] k2 pt2) pos.line X.env = pure false) :
    PS X (.Assign [.Tuple [.Name x px, .Name y py] kt pt] (.Tuple [a, b] k2 pt2) pos) (tS X.K W (f >>= fun d => g >>= fun e => ofO (mkSl true fr e) >>= fun z => setSl i (.fz d) >>= fun _ => setSl j z >>= fun _ => Pure.pure .nx)) := by
  refine PS.imp (ps_par hc hN hi hj hij hx hy (pa_cons ha (pa_cons hb pa_nil h2) h1) hw hs) fun E σ H ⟨st, c, A, h⟩ => ?_
  show tD X.K W f σ H fun v H1 => tF X.K W g σ H1 fun w H2 => ∃ v' w', [v, w] = [v', w'] ∧ E.nx ((σ.set i (some v')).set j (some w')) H2
  refine tD_st A h fun v H1 st1 c1 d l A1 r h1 => ?_
  have h1 : SatS X.K W c1 ((g st1).bind fun e s => (ofO (mkSl true fr e) s).bind fun z s => (setSl i (.fz d) s).bind fun _ s => (setSl j z s).bind fun _ s => .ok .nx s) E := h1
  refine tF_st A1 h1 fun H2 st2 c2 e l2 A2 h2 => ?_
  unfold mkSl at h2
  rw [if_pos rfl] at h2
  split at h2
  · rename_i hk
    rw [Bool.and_eq_true] at hk
    cases e with
    | lst ds =>
      intro p xs hp r2 hl
      have h3 : SatS X.K W c2 ((setSl i (.fz d) st2).bind fun _ s => (setSl j (.ow (.lst ds)) s).bind fun _ s => .ok .nx s) E := h2
      rw [setSl_ap] at h3
      split at h3
      · rename_i hi'
        have h4 : SatS X.K W c2 ((setSl j (.ow (.lst ds)) { st2 with sl := st2.sl.set i (.fz d) }).bind fun _ s => .ok .nx s) E := h3
        rw [setSl_ap] at h4
        split at h4
        · rename_i hj'
          refine ⟨v, .ref p, rfl, SatS.nx (s := { st2 with sl := (st2.sl.set i (.fz d)).set j (.ow (.lst ds)) }) h4 ?_⟩
          have B1 : Abs X.K c2 { st2 with sl := st2.sl.set i (.fz d) } (σ.set i (some v)) (upd H2 p (.lst xs)) := (A2.new hp).setFz hi' (r.mono l2 _ _)
          have hn : NoOwn { st2 with sl := st2.sl.set i (.fz d) } (σ.set i (some v)) c2 p := (A2.setFz hi' (r.mono l2 _ _)).noOwn_new hp
          exact B1.setOw (st := { st2 with sl := st2.sl.set i (.fz d) }) hj' ⟨A2.fN hp, A2.bN hp, xs, upd_same, r2⟩ hn
        · exact h4.elim
      · exact h3.elim
    | _ => cases hk.2
  · exact h2.elim
/-! ### a, b = e, {} -/
theorem rs_parFN {i j : Nat} {x y : Str} {f : M D} {t : Bool} {px py pt pd : Pos} {kt k2 pt2} (hc : X.calm = true) (hN : X.N.Nodup) (hi : X.N[i]? = some x) (hj : X.N[j]? = some y) (hij : i ≠ j)
    (hx : X.env.scope.names.lookup x = some .local) (hy : X.env.scope.names.lookup y = some .local) (ha : PE X a (tD X.K W f)) (h1 : starEach [a, .Dict [] [] pd] X.env = (false, eval a X.env) :: starEach [.Dict [] [] pd] X.env) (h2 : starEach [.Dict [] [] pd] X.env = (false, eval (.Dict [] [] pd) X.env) :: starEach [] X.env)
    (hw : swappedStores [.Tuple [.Name x px, .Name y py] kt pt] (.Tuple [a, .Dict [] [] pd] k2 pt2) X.env = pure (some [x, y]))
    (hs : swapsWithSole [.Tuple [.Name x px, .Name y py] kt pt] (.Tuple [a, .Dict [] [] pd] k2 pt2) pos.line X.env = pure false) :
    PS X (.Assign [.Tuple [.Name x px, .Name y py] kt pt] (.Tuple [a, .Dict [] [] pd] k2 pt2) pos) (tS X.K W (f >>= fun d => setSl i (.fz d) >>= fun _ => setSl j (.ow (dct t [])) >>= fun _ => Pure.pure .nx)) := by
  refine PS.imp (ps_par hc hN hi hj hij hx hy (pa_cons ha (pa_cons (pe_dnew (t := t)) pa_nil h2) h1) hw hs) fun E σ H ⟨st, c, A, h⟩ => ?_
  show tD X.K W f σ H fun v H1 => tNew X.K t σ H1 fun w H2 => ∃ v' w', [v, w] = [v', w'] ∧ E.nx ((σ.set i (some v')).set j (some w')) H2
  refine tD_st A h fun v H2 st2 c2 d l2 A2 r h2 => ?_
  intro c3 p o hp ho
  have ho' : OwnIs X.K c2 (upd H2 p o) p (dct t []) := by
    cases t with
    | false => obtain ⟨vs, e, rk⟩ := ho; cases rk; exact ⟨[], e, rfl⟩
    | true => obtain ⟨vs, e, rk⟩ := ho; cases rk; exact ⟨[], e, rfl⟩
  have h3 : SatS X.K W c2 ((setSl i (.fz d) st2).bind fun _ s => (setSl j (.ow (dct t [])) s).bind fun _ s => .ok .nx s) E := h2
  rw [setSl_ap] at h3
  split at h3
  · rename_i hi'
    have h4 : SatS X.K W c2 ((setSl j (.ow (dct t [])) { st2 with sl := st2.sl.set i (.fz d) }).bind fun _ s => .ok .nx s) E := h3
    rw [setSl_ap] at h4
    split at h4
    · rename_i hj'
      refine ⟨v, .ref p, rfl, SatS.nx (s := { st2 with sl := (st2.sl.set i (.fz d)).set j (.ow (dct t [])) }) h4 ?_⟩
      have B1 : Abs X.K c2 { st2 with sl := st2.sl.set i (.fz d) } (σ.set i (some v)) (upd H2 p o) := (A2.new hp).setFz hi' r
      have hn : NoOwn { st2 with sl := st2.sl.set i (.fz d) } (σ.set i (some v)) c2 p := (A2.setFz hi' r).noOwn_new hp
      exact B1.setOw (st := { st2 with sl := st2.sl.set i (.fz d) }) hj' ⟨A2.fN hp, A2.bN hp, ho'⟩ hn
    · exact h4.elim
  · exact h3.elim
/-! ### a, b = e, f, where the tuple is made and taken apart -/
theorem two_small : ([.non, .non] : List V).length ≤ sizeLine := by decide
theorem rs_parFN2 {i j : Nat} {x y : Str} {f : M D} {t : Bool} {px py pt pd : Pos} {kt k2 pt2} (hc : X.calm = true) (hN : X.N.Nodup) (hi : X.N[i]? = some x) (hj : X.N[j]? = some y)
    (hx : Loc X.env.scope x) (hy : Loc X.env.scope y) (hfn : ∀ x, X.fn x = true) (ha : PE X a (tD X.K W f)) (h1 : starEach [a, .Dict [] [] pd] X.env = (false, eval a X.env) :: starEach [.Dict [] [] pd] X.env) (h2 : starEach [.Dict [] [] pd] X.env = (false, eval (.Dict [] [] pd) X.env) :: starEach [] X.env)
    (hw : swappedStores [.Tuple [.Name x px, .Name y py] kt pt] (.Tuple [a, .Dict [] [] pd] k2 pt2) X.env = pure none)
    (hs : swapsWithSole [.Tuple [.Name x px, .Name y py] kt pt] (.Tuple [a, .Dict [] [] pd] k2 pt2) pos.line X.env = pure false) :
    PS X (.Assign [.Tuple [.Name x px, .Name y py] kt pt] (.Tuple [a, .Dict [] [] pd] k2 pt2) pos) (tS X.K W (f >>= fun d => setSl i (.fz d) >>= fun _ => setSl j (.ow (dct t [])) >>= fun _ => Pure.pure .nx)) := by
  refine PS.imp (ps_asg (pe_tup (pa_cons ha (pa_cons (pe_dnew (t := t)) pa_nil h2) h1)) (pg_tup hc (pgs_cons (pg_name hN hi hx (.inl (hfn x))) (pgs_cons (pg_name hN hj hy (.inl (hfn y))) pgs_nil))) hs hw) fun E σ H ⟨st, c, A, h⟩ => ?_
  show tD X.K W f σ H fun v H1 => tNew X.K t σ H1 fun w H2 => [v, w].length ≤ sizeLine ∧ ∀ q, H2 q = none → gTup X.K 2 (gCons (gName i) (gCons (gName j) gNil)) (.ref q) σ (upd H2 q (.tup [v, w])) fun σ' H' => E.nx σ' H'
  refine tD_st A h fun v H2 st2 c2 d l2 A2 r h2 => ?_
  intro c3 p o hp ho
  refine ⟨two_small, fun q hq => ⟨q, [v, .ref p], rfl, .inl (.inl upd_same), rfl, v, [.ref p], rfl, .ref p, [], rfl, rfl, ?_⟩⟩
  have ho' : OwnIs X.K c2 (upd H2 p o) p (dct t []) := by
    cases t with
    | false => obtain ⟨vs, e, rk⟩ := ho; cases rk; exact ⟨[], e, rfl⟩
    | true => obtain ⟨vs, e, rk⟩ := ho; cases rk; exact ⟨[], e, rfl⟩
  have h3 : SatS X.K W c2 ((setSl i (.fz d) st2).bind fun _ s => (setSl j (.ow (dct t [])) s).bind fun _ s => .ok .nx s) E := h2
  rw [setSl_ap] at h3
  split at h3
  · rename_i hi'
    have h4 : SatS X.K W c2 ((setSl j (.ow (dct t [])) { st2 with sl := st2.sl.set i (.fz d) }).bind fun _ s => .ok .nx s) E := h3
    rw [setSl_ap] at h4
    split at h4
    · rename_i hj'
      refine SatS.nx (s := { st2 with sl := (st2.sl.set i (.fz d)).set j (.ow (dct t [])) }) h4 ?_
      have B1 : Abs X.K c2 { st2 with sl := st2.sl.set i (.fz d) } (σ.set i (some v)) (upd H2 p o) := (A2.new hp).setFz hi' r
      have hn : NoOwn { st2 with sl := st2.sl.set i (.fz d) } (σ.set i (some v)) c2 p := (A2.setFz hi' r).noOwn_new hp
      exact (B1.setOw (st := { st2 with sl := st2.sl.set i (.fz d) }) hj' ⟨A2.fN hp, A2.bN hp, ho'⟩ hn).new hq
    · exact h4.elim
  · exact h3.elim
theorem rs_parFO2 {i j : Nat} {x y : Str} {f g : M D} {fr : Bool} {px py pt : Pos} {kt k2 pt2} (hc : X.calm = true) (hN : X.N.Nodup) (hi : X.N[i]? = some x) (hj : X.N[j]? = some y)
    (hx : Loc X.env.scope x) (hy : Loc X.env.scope y) (hfn : ∀ x, X.fn x = true) (ha : PE X a (tD X.K W f)) (hb : PE X b (tF X.K W g)) (h1 : starEach [a, b] X.env = (false, eval a X.env) :: starEach [b] X.env) (h2 : starEach [b] X.env = (false, eval b X.env) :: starEach [] X.env)
    (hw : swappedStores [.Tuple [.Name x px, .Name y py] kt pt] (.Tuple [a, b] k2 pt2) X.env = pure none)
    (hs : swapsWithSole [.Tuple [.Name x px, .Name y py] kt pt] (.Tuple [a, b] k2 pt2) pos.line X.env = pure false) :
    PS X (.Assign [.Tuple [.Name x px, .Name y py] kt pt] (.Tuple [a, b] k2 pt2) pos) (tS X.K W (f >>= fun d => g >>= fun e => ofO (mkSl true fr e) >>= fun z => setSl i (.fz d) >>= fun _ => setSl j z >>= fun _ => Pure.pure .nx)) := by
  refine PS.imp (ps_asg (pe_tup (pa_cons ha (pa_cons hb pa_nil h2) h1)) (pg_tup hc (pgs_cons (pg_name hN hi hx (.inl (hfn x))) (pgs_cons (pg_name hN hj hy (.inl (hfn y))) pgs_nil))) hs hw) fun E σ H ⟨st, c, A, h⟩ => ?_
  show tD X.K W f σ H fun v H1 => tF X.K W g σ H1 fun w H2 => [v, w].length ≤ sizeLine ∧ ∀ q, H2 q = none → gTup X.K 2 (gCons (gName i) (gCons (gName j) gNil)) (.ref q) σ (upd H2 q (.tup [v, w])) fun σ' H' => E.nx σ' H'
  refine tD_st A h fun v H1 st1 c1 d l A1 r h1 => ?_
  have h1 : SatS X.K W c1 ((g st1).bind fun e s => (ofO (mkSl true fr e) s).bind fun z s => (setSl i (.fz d) s).bind fun _ s => (setSl j z s).bind fun _ s => .ok .nx s) E := h1
  refine tF_st A1 h1 fun H2 st2 c2 e l2 A2 h2 => ?_
  unfold mkSl at h2
  rw [if_pos rfl] at h2
  split at h2
  · rename_i hk
    rw [Bool.and_eq_true] at hk
    cases e with
    | lst ds =>
      intro p xs hp r2 hl
      refine ⟨two_small, fun q hq => ⟨q, [v, .ref p], rfl, .inl (.inl upd_same), rfl, v, [.ref p], rfl, .ref p, [], rfl, rfl, ?_⟩⟩
      have h3 : SatS X.K W c2 ((setSl i (.fz d) st2).bind fun _ s => (setSl j (.ow (.lst ds)) s).bind fun _ s => .ok .nx s) E := h2
      rw [setSl_ap] at h3
      split at h3
      · rename_i hi'
        have h4 : SatS X.K W c2 ((setSl j (.ow (.lst ds)) { st2 with sl := st2.sl.set i (.fz d) }).bind fun _ s => .ok .nx s) E := h3
        rw [setSl_ap] at h4
        split at h4
        · rename_i hj'
          refine SatS.nx (s := { st2 with sl := (st2.sl.set i (.fz d)).set j (.ow (.lst ds)) }) h4 ?_
          have B1 : Abs X.K c2 { st2 with sl := st2.sl.set i (.fz d) } (σ.set i (some v)) (upd H2 p (.lst xs)) := (A2.new hp).setFz hi' (r.mono l2 _ _)
          have hn : NoOwn { st2 with sl := st2.sl.set i (.fz d) } (σ.set i (some v)) c2 p := (A2.setFz hi' (r.mono l2 _ _)).noOwn_new hp
          exact (B1.setOw (d := .lst ds) (st := { st2 with sl := st2.sl.set i (.fz d) }) hj' ⟨A2.fN hp, A2.bN hp, xs, upd_same, r2⟩ hn).new hq
        · exact h4.elim
      · exact h3.elim
    | _ => cases hk.2
  · exact h2.elim
end
end Pv

set_option maxRecDepth 100000
/-! Pv.Call: defs and calls. -/
namespace Pv
open PySem PySem.Spec L2 C8
section
variable {K : PySem.W.Frag} {c c' : Gh} {st : S} {σ : St} {H H' : Hp} {sh : List D}
/-- names are forgotten -/
theorem Abs.bare (A : Abs K c st σ H) : Abs K c ⟨[], st.sh⟩ [] H := A.reslot (sl' := []) rfl fun i t e => by simp at e
open Classical in
/-- what others hold, and the lists of a frame's own -/
noncomputable def heldB (c : Gh) (st : S) (σ : St) (H : Hp) : Hp := fun a => if ∃ (i : Nat) (d : D), st.sl[i]? = some (.ow d) ∧ σ[i]? = some (some (.ref a)) then H a else c.B a
theorem Abs.enter (A : Abs K c st σ H) : Abs K ⟨c.F, heldB c st σ H, c.am⟩ ⟨[], st.sh⟩ [] H := by
  have A0 := A.bare
  refine A0.withB (B := heldB c st σ H) (fun x u e => ?_) fun x e => ?_
  · unfold heldB at e
    split at e
    · exact e
    · exact A.bH x u e
  · unfold heldB at e
    split at e
    · rename_i h
      obtain ⟨i, d, e1, e2⟩ := h
      have ow : Owns st σ c x (.inl i) := ⟨⟨d, e1⟩, e2⟩
      obtain ⟨d', o⟩ := A.owned ow
      refine ⟨o.f, fun k o2 => ?_⟩
      cases k with
      | inl j => obtain ⟨⟨d2, e3⟩, _⟩ := o2; simp at e3
      | inr n =>
        have := A.uq x (.inl i) (.inr n) ow o2
        cases this
    · refine ⟨?_, fun k o2 => ?_⟩
      · cases hf : c.F x with
        | none => rfl
        | some o => exact (e (A.fB x (by rw [hf]; simp))).elim
      · cases k with
        | inl j => obtain ⟨⟨d2, e3⟩, _⟩ := o2; simp at e3
        | inr n =>
          have o2' : Owns st σ c x (.inr n) := o2
          obtain ⟨d', o⟩ := A.owned o2'
          exact e o.b
theorem Abs.leave (A : Abs K c st σ H) (le : Le ⟨c.F, heldB c st σ H, c.am⟩ c') (A' : Abs K c' ⟨[], sh⟩ [] H') : Abs K ⟨c'.F, c.B, c'.am⟩ ⟨st.sl, sh⟩ σ H' ∧ Le c ⟨c'.F, c.B, c'.am⟩ := by
  have l : Le c ⟨c'.F, c.B, c'.am⟩ := ⟨le.F, rfl, le.am⟩
  have hb : c'.B = heldB c st σ H := le.B
  -- an own list of the frame is as it was
  have own : ∀ (i : Nat) (d : D) (a : Addr), st.sl[i]? = some (.ow d) → σ[i]? = some (some (.ref a)) → OwnAt K ⟨c'.F, c.B, c'.am⟩ H' a d ∧ ∀ n : Nat, c'.am[n]? ≠ some a := by
    intro i d a e1 e2
    obtain ⟨a2, e3, o⟩ := A.sl i _ e1
    rw [e2] at e3
    cases e3
    obtain ⟨f, b, ow⟩ := o
    obtain ⟨ho, e4⟩ := ow.some
    have hB : c'.B a = some ho := by
      rw [hb]
      unfold heldB
      rw [if_pos ⟨i, _, e1, e2⟩]
      exact e4
    have hF : c'.F a = none := by
      cases hf : c'.F a with
      | none => rfl
      | some o => have := A'.fB a (by rw [hf]; simp); rw [hB] at this; cases this
    refine ⟨⟨hF, b, (ow.mono l).to ((A'.bH a _ hB).trans e4.symm)⟩, fun n e => ?_⟩
    have o2 : Owns ⟨[], sh⟩ ([] : St) c' a (.inr n) := e
    obtain ⟨d', o3⟩ := A'.owned o2
    rw [o3.b] at hB
    cases hB
  have bb : ∀ x u, c.B x = some u → c'.B x = some u := fun x u e => by
    rw [hb]
    unfold heldB
    split
    · rename_i h
      obtain ⟨i, d, e1, e2⟩ := h
      have ow : Owns st σ c x (.inl i) := ⟨⟨d, e1⟩, e2⟩
      obtain ⟨d', o⟩ := A.owned ow
      rw [o.b] at e
      cases e
    · exact e
  have A2 := A'.lessB (B := c.B) bb
  refine ⟨⟨A2.fH, A2.bH, A2.fB, A.len, fun i t e => ?_, A2.shl, A2.sh, fun a k k' x y => ?_⟩, l⟩
  · have q := A.sl i t e
    cases t with
    | un => trivial
    | fz d =>
      obtain ⟨v, e2, r⟩ := q
      exact ⟨v, e2, r.mono l _ _⟩
    | ow d =>
      obtain ⟨a, e2, o⟩ := q
      exact ⟨a, e2, (own i d a e e2).1⟩
  · cases k with
    | inl i =>
      cases k' with
      | inl j => exact A.uq a (.inl i) (.inl j) x y
      | inr n =>
        obtain ⟨⟨d, e1⟩, e2⟩ := x
        exact ((own i d a e1 e2).2 n y).elim
    | inr n =>
      cases k' with
      | inl j =>
        obtain ⟨⟨d, e1⟩, e2⟩ := y
        exact ((own j d a e1 e2).2 n x).elim
      | inr m => exact A2.uq a (.inr n) (.inr m) x y
end
/-- the result, with these names -/
def atSl (sl : List Sl) : R D → R D
  | .ok d s => .ok d ⟨sl, s.sh⟩
  | .ex x s => .ex x ⟨sl, s.sh⟩
  | .no => .no
theorem callF_succ (fns : List Fn) (cs : List D) (Wh n f : Nat) (args : List D) (s : S) : callF fns cs Wh (n + 1) f args s = match fns[f]? with
    | some fd => if args.length = fd.np ∧ fd.np ≤ fd.ns then backF s.sl (evSs ⟨callF fns cs Wh n, cs⟩ Wh fd.body ⟨args.map .fz ++ List.replicate (fd.ns - fd.np) .un, s.sh⟩) else .no
    | none => .no := rfl
theorem callF_sl (fns : List Fn) (cs : List D) (Wh n f : Nat) (args : List D) (s : S) : callF fns cs Wh n f args s = atSl s.sl (callF fns cs Wh n f args ⟨[], s.sh⟩) := by
  cases n with
  | zero => rfl
  | succ n =>
    rw [callF_succ, callF_succ]
    cases fns[f]? with
    | none => rfl
    | some fd =>
      show (if _ then _ else _) = atSl s.sl (if _ then _ else _)
      split
      · show backF s.sl _ = atSl s.sl (backF [] _)
        generalize evSs _ _ _ _ = r
        cases r with
        | ok k s' => cases k <;> rfl
        | ex x s' => rfl
        | no => rfl
      · rfl
/-- a def's promise: what the evaluator says -/
def spM (K : PySem.W.Frag) (m : List D → M D) : Sp := fun vs H Q _ => ∃ sh c ds, Abs K c ⟨[], sh⟩ [] H ∧ RpL K c ds vs ∧ Sat K W0 c [] (m ds ⟨[], sh⟩) (Rp K) Q
section
variable {X : Cx} {k j : Nat} {x : Str} {p pos : Pos} {e : Expr} {es : List Expr}
theorem call_sat {K : PySem.W.Frag} {m : List D → M D} {c1 : Gh} {st1 : S} {σ : St} {H1 : Hp} {ds : List D} {vs : List V} {Q : VK} {E : XK} (hm : ∀ ds s, m ds s = atSl s.sl (m ds ⟨[], s.sh⟩)) (A1 : Abs K c1 st1 σ H1) (r : RpL K c1 ds vs) (h : Sat K W0 c1 σ (m ds st1) (Rp K) Q) :
    spM K m vs H1 Q E := by
  refine ⟨st1.sh, _, ds, A1.enter, RpL.ofB (B := c1.B) ds vs r, ?_⟩
  rw [hm] at h
  cases er : m ds ⟨[], st1.sh⟩ with
  | ok d s =>
    rw [er] at h
    intro c' b H' l A' rb
    obtain ⟨s1, s2⟩ := s
    have hs : s1 = [] := by
      have := A'.len
      exact List.length_eq_zero_iff.mp this
    subst hs
    obtain ⟨A2, l2⟩ := A1.leave l A'
    exact h _ b H' l2 A2 (Rp.ofB (B := c'.B) d b rb)
  | ex x s =>
    rw [er] at h
    intro c' H' l A'
    obtain ⟨s1, s2⟩ := s
    have hs : s1 = [] := List.length_eq_zero_iff.mp A'.len
    subst hs
    obtain ⟨A2, l2⟩ := A1.leave l A'
    exact (show False from h ⟨c'.F, c1.B, c'.am⟩ H' l2 A2).elim
  | no => rw [er] at h; exact h
theorem rl_call {m : List D → M D} {f : M (List D)} (hm : ∀ ds s, m ds s = atSl s.sl (m ds ⟨[], s.sh⟩)) (c : Cal X.prog X.w X.K X.mg X.base k x (spM X.K m) []) (hr : Room j X.A) (hk : k ≤ j) (hg : Gl X x) (ha : PA X (e :: es) (tDs X.K W0 f))
    (hdb : (x == ("__debug__" : Str)) = false) (he : starEach (e :: es) X.env = (false, eval e X.env) :: starEach es X.env) (hpl : (backTo pos (starEach es X.env)).any (·.1) = false) :
    PE X (.Call (.Name x p) (e :: es) [] pos) (tD X.K W0 (f >>= fun ds => m ds)) := by
  refine PE.imp (pe_c c hr hk hg ha hdb he hpl) fun σ H Q ⟨st, c, A, h⟩ => ?_
  refine ⟨st, c, A, (Sat.bind (RpL X.K) h).imp fun vs H1 ⟨st1, c1, ds, l1, A1, r1, h1⟩ => ?_⟩
  rw [List.append_nil]
  exact call_sat hm A1 r1 h1
end
/-- a def by what the evaluator says of its body -/
theorem fn_ofM {P : Program} {w : World} {K : PySem.W.Frag} {mg : Str → Option Value} {base : Heap} {x : Str} {s : Stmt} {f : Addr} {fd : FuncData} {N ps : List Str} {n : Nat} {fns : List Fn} {cs : List D} {Wh g : Nat} {fn : Fn}
    (F : C8.Fun K x x s f fd) (S : FnScope N ps (fnScope s)) (hf : fns[g]? = some fn) (hp : fn.np = ps.length) (hn : fn.ns = N.length)
    (hb : ∀ (cdv : Value) (A : Around) (outer : List Env) (s1 : Shared) (H : Hp) (E : XK), Room n (A.deeper (PyProof.Rows.envOfC x (fnScope s) s1.heap.objs.size f cdv)) →
      PSs (cxOf C8.CX0 P w K mg base N x (fnScope s) f cdv A outer s1 H E).nox (fnBody s) (tS K W0 (evSs ⟨callF fns cs Wh n, cs⟩ Wh fn.body))) :
    FnOk P w K mg base C8.CX0 (n + 1) f fd ps (spM K (callF fns cs Wh (n + 1) g)) := by
  have unf : ∀ ds sh, callF fns cs Wh (n + 1) g ds ⟨[], sh⟩ = if ds.length = fn.np ∧ fn.np ≤ fn.ns then backF [] (evSs ⟨callF fns cs Wh n, cs⟩ Wh fn.body ⟨ds.map .fz ++ List.replicate (fn.ns - fn.np) .un, sh⟩) else .no := by
    intro ds sh
    rw [callF_succ]
    simp only [hf]
  refine fn0 F S ?_ ?_
  · rintro vs H Q E ⟨sh, c, ds, A, r, h⟩
    rw [unf] at h
    split at h
    · rename_i q
      rw [← r.length, q.1, hp]
    · exact h.elim
  · rintro cdv A outer s1 H vs Q E hr ⟨sh, c, ds, Ab, r, h⟩
    refine ⟨_, hb cdv A outer s1 H E hr, ?_⟩
    rw [unf] at h
    split at h
    · rename_i q
      refine ⟨⟨ds.map .fz ++ List.replicate (fn.ns - fn.np) .un, sh⟩, c, ?_, ?_⟩
      · refine Ab.reslot (sl' := ds.map .fz ++ List.replicate (fn.ns - fn.np) .un) ?_ fun i t e => ?_
        · unfold L2.start
          simp only [List.length_append, List.length_map, List.length_replicate, ← r.length, q.1, ← hn]
        · by_cases hi : i < ds.length
          · rw [List.getElem?_append_left (by simpa using hi), List.getElem?_map] at e
            cases ed : ds[i]? with
            | none => rw [ed] at e; cases e
            | some d =>
              rw [ed] at e
              cases e
              obtain ⟨v, ev, rv⟩ := r.get ed
              refine .inr (.inr ⟨d, v, rfl, ?_, rv⟩)
              unfold L2.start
              rw [List.getElem?_append_left (by simpa [← r.length] using hi), List.getElem?_map, ev]
              rfl
          · rw [List.getElem?_append_right (by simpa using hi)] at e
            have := List.mem_of_getElem? e
            exact .inl (List.eq_of_mem_replicate this)
      · generalize evSs _ _ _ _ = rr at h
        cases rr with
        | ok k s' =>
          cases k with
          | nx => exact fun c' σ' H' l A' => h c' .non H' l A'.bare (by simp only [Rp])
          | rt d => exact fun c' σ' v H' l A' rv => h c' v H' l A'.bare rv
          | bk => exact h.elim
          | ct => exact h.elim
        | ex x s' => exact fun c' σ' H' l A' => h c' H' l A'.bare
        | no => exact h.elim
    · exact h.elim
theorem cal_of {P : Program} {w : World} {K : PySem.W.Frag} {mg : Str → Option Value} {base : Heap} {x : Str} {s : Stmt} {f : Addr} {fd : FuncData} {ps : List Str} {n : Nat} {sp : Sp}
    (F : Def K mg x s f fd) (b : Binds K fd ps []) (h : FnOk P w K mg base C8.CX0 n f fd ps sp) : Cal P w K mg base n x sp [] := ⟨f, fd, ps, [], h, F.mgf, F.kp, b, .nil⟩
/-- no call deeper -/
theorem cal_zero {P : Program} {w : World} {K : PySem.W.Frag} {mg : Str → Option Value} {base : Heap} {x : Str} {s : Stmt} {f : Addr} {fd : FuncData} {ps : List Str} {fns : List Fn} {cs : List D} {Wh g : Nat}
    (F : Def K mg x s f fd) (b : Binds K fd ps []) : Cal P w K mg base 0 x (spM K (callF fns cs Wh 0 g)) [] :=
  ⟨f, fd, ps, [], ⟨fun vs H Q E ⟨_, _, _, _, _, h⟩ => h.elim, fun A outer s H args us vs Q E _ _ _ _ ⟨_, _, _, _, _, h⟩ => h.elim⟩, F.mgf, F.kp, b, .nil⟩
end Pv

set_option maxRecDepth 100000
/-! Pv.Enum: enumerate of a list, a tuple, a text; zip of two lists, two tuples. -/
namespace Pv
open PySem PySem.Spec L2
section
variable {prog : Program} {w : World} {A : Around} {E : Value → Shared → Prop} {s : Shared}
set_option maxHeartbeats 1000000 in
theorem enumT_new (tp : Addr) (xs : Array Value) :
    Meets (Builtin.«enumerate.__new__» ⟨[.type "enumerate", .ref tp], []⟩) (fun _ R s => s.heap.IsTuple tp xs ∧
      R (.ok (.ret (.ref (s.heap.push { cls := .type "tuple_iterator", data := .fields #[.ref tp, .int 0 0] }).objs.size)))
        { s with heap := (s.heap.push { cls := .type "tuple_iterator", data := .fields #[.ref tp, .int 0 0] }).push { cls := .type "enumerate", data := .fields #[.none, .bool false, .ref s.heap.objs.size, rawInt 0, .none, .none] } }) :=
  .of_wp fun prog w A R s0 hh => by
    obtain ⟨hp, gg, dd, tk, os⟩ := s0; obtain ⟨hT, hh⟩ := hh
    have hsu := sub_enumerate
    have q1 : ∀ {A' : Around} {E : Value → Shared → Prop} {Q : Value → Shared → Prop}, Q (.ref hp.objs.size) ⟨hp.push { cls := .type "tuple_iterator", data := .fields #[.ref tp, .int 0 0] }, gg, dd, tk, os⟩ → wpAny (model prog w) A' (pyIter (.ref tp)) Q E ⟨hp, gg, dd, tk, os⟩ :=
      fun qq => (begins_tuple tp xs).iter prog w _ _ ⟨hp, gg, dd, tk, os⟩ _ hT qq
    wp_walk using q1
    refine wpAny_stack_any fun sk => wpAny_pure ?_
    split
    · rename_i cc _ _ _ _ _
      cases (cc == Value.type "enumerate")
      · wp_walk using q1
        exact ⟨_, rfl, hh⟩
      · wp_walk using q1
        exact ⟨_, rfl, hh⟩
    · wp_walk using q1
      exact ⟨_, rfl, hh⟩
theorem call_enumT {tp : Addr} {xs : Array Value} {Q : Value → Shared → Prop} (hL : s.heap.IsTuple tp xs)
    (k : ∀ hq, IsEnum hq (s.heap.objs.size + 1) s.heap.objs.size 0 .none → hq.IsTupleIter s.heap.objs.size tp 0 → hq.objs.size = s.heap.objs.size + 2 →
      (∀ b o, s.heap.get? b = some o → hq.get? b = some o) → Q (.ref (s.heap.objs.size + 1)) { s with heap := hq }) :
    wpAny (model prog w) A (call (.type "enumerate") [.ref tp]) Q E s := by
  refine callType_new F.called_enumerate (by decide) (F.typeCall_enumerate_1 _) (F.newCall_enumerate_1 _) (fun ob => F.args_object_init_2 ob _) F.entry_enumerate_new (enumT_new tp xs) ⟨hL, ?_⟩
  have hz : (s.heap.push { cls := .type "tuple_iterator", data := .fields #[.ref tp, .int 0 0] }).objs.size = s.heap.objs.size + 1 := Heap.size_push ..
  show _ ∧ _
  rw [hz]
  have he : IsEnum ((s.heap.push { cls := .type "tuple_iterator", data := .fields #[.ref tp, .int 0 0] }).push { cls := .type "enumerate", data := .fields #[.none, .bool false, .ref s.heap.objs.size, rawInt 0, .none, .none] }) (s.heap.objs.size + 1) s.heap.objs.size 0 .none := by
    have q := Heap.get?_push_size (s.heap.push { cls := .type "tuple_iterator", data := .fields #[.ref tp, .int 0 0] }) (o := { cls := .type "enumerate", data := .fields #[.none, .bool false, .ref s.heap.objs.size, rawInt 0, .none, .none] }) rfl
    rw [hz] at q; exact q
  exact ⟨⟨_, he, rfl⟩, k _ he ⟨_, Heap.get?_push_of_some _ (Heap.get?_push_size _ rfl), rfl, rfl⟩ (by rw [Heap.size_push, hz]) fun b o x => Heap.get?_push_of_some _ (Heap.get?_push_of_some _ x)⟩
end
/-- the tuple at a, numbered -/
def IteT (K : PySem.W.Frag) (a : Addr) : It :=
  ⟨fun i H => ∃ (xs : List V) (x : V), SqT K H a xs ∧ xs[i]? = some x, fun i H v H' => ∃ T x, v = .ref T ∧ H T = none ∧ H' = upd H T (.tup [.int (i : Nat), x]) ∧ ∀ xs, SqT K H a xs → xs[i]? = some x, fun i H => ∃ xs : List V, SqT K H a xs ∧ xs.length ≤ i⟩
/-- the text, numbered -/
def IteS (z : Str) : It :=
  ⟨fun i H => i < z.cps.size, fun i H v H' => ∃ T k, v = .ref T ∧ H T = none ∧ H' = upd H T (.tup [.int (i : Nat), .str ⟨#[k]⟩]) ∧ z.cps[i]? = some k, fun i H => i = z.cps.size⟩
/-- one turn of enumerate over anything that draws -/
theorem enum_turn {X : Cx} {e it : Addr} {fp : List Addr} {n i : Nat} {P : Nat → Value → Prop} {Sx : Nat → Heap → Prop} {old : Value} {pins : List (Addr × Obj)} {s : Shared} {σ : St} {H : Hp} {E : Value → Shared → Prop} {tg : Expr} {R : Value → Shared → Prop}
    (Dr : Draws X.prog X.w X.A.in1 it fp n P Sx) (I : Inv X pins σ H s) (hf : ∀ b ∈ [e, it], FpOk X pins H b) (he : IsEnum s.heap e it ((i : Nat) : Int) old) (hst : Sx i s.heap) (hlt : i < n) (hne : e ≠ it) (hef : e ∉ fp)
    (k : ∀ u x tk h2, P i u → RelV x u → h2.get? s.heap.objs.size = some { cls := .type "tuple", data := .seq #[.int i tk, u] } → IsEnum h2 e it ((i : Nat) + 1 : Int) u → Sx (i + 1) h2 → Inv X pins σ (upd H s.heap.objs.size (.tup [.int (i : Nat), x])) { s with heap := h2, toks := tk + 1 } →
      H s.heap.objs.size = none → (∀ b ∈ [e, it], upd H s.heap.objs.size (.tup [.int (i : Nat), x]) b = none) → R (.ref s.heap.objs.size) { s with heap := h2, toks := tk + 1 })
    (rel : ∀ u, P i u → ∃ x, RelV x u) (go : ∀ (s' : Shared) (T : Addr) (v : Value) (c : Int), IsEnumOut s'.heap e it c v T → (∀ h'', IsEnum h'' e it c v → Heap.SameBut e s'.heap h'' → R (.ref T) { s' with heap := h'' }) → wpAny (model X.prog X.w) X.A (letOwnedTupleGo tg (.ref e) (.ref T)) (fun _ s2 => R (.ref T) s2) E s') :
    wpAny (model X.prog X.w) X.A (pyNext (.ref e)) (fun r s1 => ∃ u, r = some u ∧ wpAny (model X.prog X.w) X.A (letOwnedTupleGo tg (.ref e) u) (fun _ s2 => R u s2) E s1) E s := by
  have hel : e < s.heap.objs.size := Heap.lt_size he
  have hil : it < s.heap.objs.size := by obtain ⟨_, y⟩ := Dr.live _ _ hst; exact Heap.lt_size y
  refine wpAny_pyNext_enum_itemC Dr he hst hlt hne hef fun u h1 tk hP ho hs1 hT hsz hk => ⟨_, rfl, ?_⟩
  refine go { s with heap := h1, toks := tk + 1 } _ u _ ho fun h2 he2 sb => ?_
  obtain ⟨x, rx⟩ := rel u hP
  have hT2 : h2.get? s.heap.objs.size = some { cls := .type "tuple", data := .seq #[.int i tk, u] } := (sb.2 _ (Nat.ne_of_gt hel)).trans hT
  have new : ObjOk X.prog X.w (upd H s.heap.objs.size (.tup [.int (i : Nat), x])) h2 s.heap.objs.size (.tup [.int (i : Nat), x]) :=
    ⟨by show 2 ≤ sizeLine; decide, [.int i tk, u], .cons ⟨_, rfl⟩ (.cons rx .nil), ⟨_, hT2, rfl, _, rfl⟩⟩
  have I1 : Inv X pins σ (upd H s.heap.objs.size (.tup [.int (i : Nat), x])) { s with heap := h2, toks := tk + 1 } :=
    I.turnedNew (ch := [e, it]) (fun b ob hb q => (sb.2 b (fun z => hb (by simp [z]))).trans (hk b ob (fun z => hb (by simp [z])) (fun z => hb (by simp [z])) q)) hf (Nat.le_refl _) new
  refine k u x tk h2 hP rx hT2 he2 (Dr.frame _ _ _ hs1 fun b hb o y => (sb.2 b fun q => hef (q ▸ hb)).trans y) I1 (I.hok.fresh (Nat.le_refl _)) fun b hb => ?_
  have hb' : b < s.heap.objs.size := by
    have e' : b = e ∨ b = it := by simpa using hb
    rcases e' with z | z
    · rw [z]; exact hel
    · rw [z]; exact hil
  rw [upd_ne (Nat.ne_of_lt hb')]
  exact (hf b hb).1
theorem turn_enumT {P : Program} {w : World} {K : PySem.W.Frag} {elts : List Expr} {kk : Nat} {tpos : Pos} (a e it : Addr) :
    Turn P w K (.Tuple elts kk tpos) (IteT K a) [e, it] e (fun i h => (∃ old, IsEnum h e it ((i : Nat) : Int) old) ∧ h.IsTupleIter it a i ∧ e ≠ it ∧ a ≠ it ∧ e ≠ a) where
  mem := by simp
  obj := fun i h st b hb => by
    obtain ⟨⟨old, he⟩, ⟨o, ho, hc, hd⟩, _⟩ := st
    have e' : b = e ∨ b = it := by simpa using hb
    rcases e' with z | z
    · rw [z]; exact ⟨_, he, fun v q => nomatch q⟩
    · rw [z]; exact ⟨o, ho, fun v q => by rw [hd] at q; cases q⟩
  keep := fun i h h' st k => let ⟨⟨old, he⟩, hi, hne⟩ := st; ⟨⟨old, k e (by simp) _ he⟩, hi.at fun o q => k it (by simp) o q, hne⟩
  item := by
    intro X hP hw hK hc i pins s σ H E I hf st hg
    subst hP hw hK
    obtain ⟨⟨old, he⟩, hit, hne, hai, hea⟩ := st
    obtain ⟨xs, x, hq, hx⟩ := hg
    obtain ⟨its, rv, p, hz⟩ := I.tuple hq
    have hl := rv.length
    have hx' : i < xs.length := (List.getElem?_eq_some_iff.mp hx).1
    refine enum_turn (Draws.tuple (A := X.A.in1) (I.ok.hd hc) it a hai its.toArray) I hf he ⟨hit, p⟩ (by simp; omega) hne (by simp [hne, hea]) (fun u y tk h2 hPu ry hT he2 hs2 I2 hn hb => ?_) (fun u hPu => ?_) fun s' T v c ho kk => wpAny_letOwnedTupleGo_enum ho fun h2 he2 sb => kk h2 he2 sb
    · refine ⟨.ref s.heap.objs.size, _, I2, rfl, ⟨_, y, rfl, hn, rfl, fun ys hy => ?_⟩, ⟨⟨u, ?_⟩, hs2.1, hne, hai, hea⟩, hb⟩
      · rw [I.tuple_inj hy hq]
        obtain ⟨u', hu', ru'⟩ := rv.get hx
        have : its[i]? = some u := by simpa using hPu
        rw [this] at hu'
        cases hu'
        rw [hx, RelV.inj ry ru']
      · have e1 : ((i + 1 : Nat) : Int) = (i : Int) + 1 := by omega
        rw [e1]; exact he2
    · obtain ⟨u', hu', ru'⟩ := rv.get hx
      have : its[i]? = some u := by simpa using hPu
      rw [this] at hu'
      cases hu'
      exact ⟨x, ru'⟩
  done := by
    intro X hP hw hK hc i pins s σ H E I hf st hg
    subst hP hw hK
    obtain ⟨⟨old, he⟩, hit, hne, hai, hea⟩ := st
    obtain ⟨xs, hq, hx⟩ := hg
    obtain ⟨its, rv, p, hz⟩ := I.tuple hq
    obtain ⟨f0, f1, f2, f3, f4, f5⟩ := hf it (by simp)
    have hl := rv.length
    have hT : s.TypeIs (.ref e) "enumerate" := ⟨_, he, rfl⟩
    unfold pyNext
    refine wpAny_bind (wpAny_attempt (wpAny_callSpecial?_slot (name := Str.ofString "__next__") hT F.slot_enumerate_next (wpAny_call_entry F.slot_enumerate_next hT F.entry_enumerate_next ?_ (F.args_enumerate_next_1 _))))
    show wpAny _ _ (field (.ref e) 2 >>= _) _ _ _
    refine wpAny_bind (wpAny_field he rfl (x := .ref it) rfl ?_)
    refine wpAny_bind (wpAny_nextOf_tuple_end (I.ok.hd hc) hit p (by simp; omega) fun h' x eb hx' => ?_)
    obtain ⟨o, ho, hcl⟩ := hx'
    refine wpAny_bind (wpAny_isInstance (T := "StopIteration") (b := true) ⟨o, ho, hcl⟩ isSubtype_stop (wpAny_pure ⟨rfl, ?_⟩))
    exact I.turned (t' := s.toks) (fun b o hb q => eb b o hb q) f0 f1 f3 f4 f5
  self := fun A i s Q E st h => let ⟨⟨_, he⟩, _⟩ := st; wpAny_pyIter_enum he h
theorem turn_enumS {P : Program} {w : World} {K : PySem.W.Frag} {elts : List Expr} {kk : Nat} {tpos : Pos} (z : Str) (t : Tok) (e it : Addr) :
    Turn P w K (.Tuple elts kk tpos) (IteS z) [e, it] e (fun i h => (∃ old, IsEnum h e it ((i : Nat) : Int) old) ∧ h.IsStrIter it (strIterType z) z t i ∧ e ≠ it) where
  mem := by simp
  obj := fun i h st b hb => by
    obtain ⟨⟨old, he⟩, ⟨o, ho, hc, hd⟩, _⟩ := st
    have e' : b = e ∨ b = it := by simpa using hb
    rcases e' with z | z
    · rw [z]; exact ⟨_, he, fun v q => nomatch q⟩
    · rw [z]; exact ⟨o, ho, fun v q => by rw [hd] at q; cases q⟩
  keep := fun i h h' st k => let ⟨⟨old, he⟩, ⟨o, ho, hr⟩, hne⟩ := st; ⟨⟨old, k e (by simp) _ he⟩, ⟨o, k it (by simp) o ho, hr⟩, hne⟩
  item := by
    intro X hP hw hK hc i pins s σ H E I hf st hg
    subst hP hw hK
    obtain ⟨⟨old, he⟩, hit, hne⟩ := st
    refine enum_turn (Draws.text (A := X.A.in1) (I.ok.hd hc) it z t) I hf he hit hg hne (by simp [hne]) (fun u y tk h2 hPu ry hT he2 hs2 I2 hn hb => ?_) (fun u hPu => ?_) fun s' T v c ho kk => wpAny_letOwnedTupleGo_enum ho fun h2 he2 sb => kk h2 he2 sb
    · obtain ⟨c, u2, hc2, rfl⟩ := hPu
      have ey : y = .str ⟨#[c]⟩ := RelV.inj ry (show RelV (.str ⟨#[c]⟩) (.str ⟨#[c]⟩ u2) from ⟨u2, rfl⟩)
      subst ey
      refine ⟨.ref s.heap.objs.size, _, I2, rfl, ⟨_, c, rfl, hn, rfl, hc2⟩, ⟨⟨.str ⟨#[c]⟩ u2, ?_⟩, hs2, hne⟩, hb⟩
      · have e1 : ((i + 1 : Nat) : Int) = (i : Int) + 1 := by omega
        rw [e1]; exact he2
    · obtain ⟨c, u2, hc2, rfl⟩ := hPu
      exact ⟨.str ⟨#[c]⟩, u2, rfl⟩
  done := by
    intro X hP hw hK hc i pins s σ H E I hf st hg
    subst hP hw hK
    obtain ⟨⟨old, he⟩, hit, hne⟩ := st
    obtain ⟨f0, f1, f2, f3, f4, f5⟩ := hf it (by simp)
    have hg' : i = z.cps.size := hg
    subst hg'
    exact wpAny_pyNext_enum_endD (Draws.text (A := X.A.in1) (I.ok.hd hc) it z t) he hit fun h' eb => ⟨rfl, I.turned (t' := s.toks) (fun b o hb q => eb b o hb q) f0 f1 f3 f4 f5⟩
  self := fun A i s Q E st h => let ⟨⟨_, he⟩, _⟩ := st; wpAny_pyIter_enum he h

/-! ### what is walked -/
theorem enumD_get {ds : List D} {i : Nat} {d : D} (h : (enumD ds)[i]? = some d) : ∃ x, ds[i]? = some x ∧ d = .tup [.int (i : Nat), x] := by
  unfold enumD at h
  rw [List.getElem?_map, List.getElem?_zipIdx] at h
  cases e : ds[i]? with
  | none => rw [e] at h; cases h
  | some x =>
    rw [e] at h
    cases h
    exact ⟨x, rfl, by simp⟩
theorem enumD_length (ds : List D) : (enumD ds).length = ds.length := by simp [enumD]
theorem pair_rel {K : PySem.W.Frag} {c : Gh} {i : Nat} {x : D} {v : V} (r : Rp K c x v) : RpL K c [.int (i : Nat), x] [.int (i : Nat), v] := by
  simp only [RpL, Rp]
  exact ⟨_, _, rfl, rfl, _, _, rfl, r, rfl⟩
theorem Come.enumL {K : PySem.W.Frag} {c : Gh} {a : Addr} {ds : List D} {xs : List V} (q : SqL K c.F a xs) (r : RpL K c ds xs) : Come K c (enumD ds) (Ite K a) :=
  ⟨_, _, by rw [enumD_length, r.length]; exact walk_enum (xs := xs), fun c' H l hf => sqL_mono (fun a o e => hf a o (l.F a o e)) q, fun c' i H x H' l hf y d e => by
    obtain ⟨z, ez, rfl⟩ := enumD_get e
    obtain ⟨v, e2, r2⟩ := r.get ez
    obtain ⟨T, x1, x2, rfl, hT, rfl, e3, e4⟩ := y
    cases e3
    replace e4 : xs[i]? = some x2 := e4
    rw [e2] at e4
    cases e4
    exact .inr ⟨T, _, _, rfl, rfl, hT, rfl, pair_rel (r2.monoF l)⟩⟩
theorem walk_enumT {K : PySem.W.Frag} {a : Addr} {xs : List V} : Walk (IteT K a) xs.length (fun H => SqT K H a xs) (YPair (fun i => some (.int (i : Nat))) (fun i => xs[i]?)) where
  goes := fun i H hi q => ⟨xs, xs[i], q, List.getElem?_eq_getElem hi⟩
  stops := fun H q => ⟨xs, q, Nat.le_refl _⟩
  yields := fun i H x H' hi q y => by
    obtain ⟨T, z, e1, e2, e3, e4⟩ := y
    exact ⟨T, _, z, e1, e2, e3, rfl, e4 xs q⟩
theorem Come.enumT {K : PySem.W.Frag} {c : Gh} {a : Addr} {ds : List D} {xs : List V} (q : SqT K c.F a xs) (r : RpL K c ds xs) : Come K c (enumD ds) (IteT K a) :=
  ⟨_, _, by rw [enumD_length, r.length]; exact walk_enumT (xs := xs), fun c' H l hf => sqT_mono (fun a o e => hf a o (l.F a o e)) q, fun c' i H x H' l hf y d e => by
    obtain ⟨z, ez, rfl⟩ := enumD_get e
    obtain ⟨v, e2, r2⟩ := r.get ez
    obtain ⟨T, x1, x2, rfl, hT, rfl, e3, e4⟩ := y
    cases e3
    replace e4 : xs[i]? = some x2 := e4
    rw [e2] at e4
    cases e4
    exact .inr ⟨T, _, _, rfl, rfl, hT, rfl, pair_rel (r2.monoF l)⟩⟩
theorem walk_enumS {z : Str} : Walk (IteS z) z.cps.size (fun _ => True) (fun i H v H' => ∃ T k, v = .ref T ∧ H T = none ∧ H' = upd H T (.tup [.int (i : Nat), .str ⟨#[k]⟩]) ∧ z.cps[i]? = some k) where
  goes := fun i H hi _ => hi
  stops := fun H _ => rfl
  yields := fun i H x H' hi _ y => y
theorem Come.enumS {K : PySem.W.Frag} {c : Gh} (s : Str) : Come K c (enumD (s.cps.toList.map fun c => .str ⟨#[c]⟩)) (IteS s) := by
  have e : (enumD (s.cps.toList.map fun c => (D.str ⟨#[c]⟩))).length = s.cps.size := by rw [enumD_length]; simp
  refine ⟨_, _, by rw [e]; exact walk_enumS (z := s), fun _ _ _ _ => trivial, fun c' i H x H' l hf y d ed => ?_⟩
  obtain ⟨T, k, rfl, hT, rfl, e2⟩ := y
  obtain ⟨z, ez, rfl⟩ := enumD_get ed
  rw [List.getElem?_map] at ez
  rw [← Array.getElem?_toList] at e2
  rw [e2] at ez
  cases ez
  exact .inr ⟨T, _, _, rfl, rfl, hT, rfl, pair_rel (by simp only [Rp])⟩
theorem zipD_get {xs ys : List D} {i : Nat} {d : D} (h : (zipD xs ys)[i]? = some d) : ∃ x y, xs[i]? = some x ∧ ys[i]? = some y ∧ d = .tup [x, y] := by
  unfold zipD at h
  rw [List.getElem?_zipWith] at h
  split at h
  · rename_i x y e1 e2
    cases h
    exact ⟨x, y, e1, e2, rfl⟩
  · cases h
theorem zipD_length (xs ys : List D) : (zipD xs ys).length = min xs.length ys.length := by simp [zipD]
theorem pair_rel2 {K : PySem.W.Frag} {c : Gh} {x y : D} {v w : V} (r : Rp K c x v) (q : Rp K c y w) : RpL K c [x, y] [v, w] := by
  simp only [RpL]
  exact ⟨_, _, rfl, r, _, _, rfl, q, rfl⟩
theorem walk_zipT {K : PySem.W.Frag} {a b : Addr} {xs ys : List V} {n : Nat} (hn : n = min xs.length ys.length) : Walk (RZ.ItzT K a b) n (fun H => SqT K H a xs ∧ SqT K H b ys) (YPair (fun i => xs[i]?) (fun i => ys[i]?)) where
  goes := fun i H hi q => ⟨xs, ys, xs[i]'(by omega), ys[i]'(by omega), q.1, q.2, List.getElem?_eq_getElem _, List.getElem?_eq_getElem _⟩
  stops := fun H q => ⟨xs, ys, q.1, q.2, by omega⟩
  yields := fun i H x H' hi q y => by
    obtain ⟨T, u, v, e1, e2, e3, e4, e5⟩ := y
    exact ⟨T, u, v, e1, e2, e3, e4 xs q.1, e5 ys q.2⟩
theorem Come.zipL {K : PySem.W.Frag} {c : Gh} {a b : Addr} {ds es : List D} {xs ys : List V} (q1 : SqL K c.F a xs) (q2 : SqL K c.F b ys) (r1 : RpL K c ds xs) (r2 : RpL K c es ys) : Come K c (zipD ds es) (Itz K a b) :=
  ⟨_, _, walk_zip (xs := xs) (ys := ys) (by rw [zipD_length, r1.length, r2.length]), fun c' H l hf => ⟨sqL_mono (fun a o e => hf a o (l.F a o e)) q1, sqL_mono (fun a o e => hf a o (l.F a o e)) q2⟩, fun c' i H x H' l hf y d e => by
    obtain ⟨z, w, ez, ew, rfl⟩ := zipD_get e
    obtain ⟨v, e2, s1⟩ := r1.get ez
    obtain ⟨u, e3, s2⟩ := r2.get ew
    obtain ⟨T, x1, x2, rfl, hT, rfl, e4, e5⟩ := y
    replace e4 : xs[i]? = some x1 := e4
    replace e5 : ys[i]? = some x2 := e5
    rw [e2] at e4
    rw [e3] at e5
    cases e4
    cases e5
    exact .inr ⟨T, _, _, rfl, rfl, hT, rfl, pair_rel2 (s1.monoF l) (s2.monoF l)⟩⟩
theorem Come.zipT {K : PySem.W.Frag} {c : Gh} {a b : Addr} {ds es : List D} {xs ys : List V} (q1 : SqT K c.F a xs) (q2 : SqT K c.F b ys) (r1 : RpL K c ds xs) (r2 : RpL K c es ys) : Come K c (zipD ds es) (RZ.ItzT K a b) :=
  ⟨_, _, walk_zipT (xs := xs) (ys := ys) (by rw [zipD_length, r1.length, r2.length]), fun c' H l hf => ⟨sqT_mono (fun a o e => hf a o (l.F a o e)) q1, sqT_mono (fun a o e => hf a o (l.F a o e)) q2⟩, fun c' i H x H' l hf y d e => by
    obtain ⟨z, w, ez, ew, rfl⟩ := zipD_get e
    obtain ⟨v, e2, s1⟩ := r1.get ez
    obtain ⟨u, e3, s2⟩ := r2.get ew
    obtain ⟨T, x1, x2, rfl, hT, rfl, e4, e5⟩ := y
    replace e4 : xs[i]? = some x1 := e4
    replace e5 : ys[i]? = some x2 := e5
    rw [e2] at e4
    rw [e3] at e5
    cases e4
    cases e5
    exact .inr ⟨T, _, _, rfl, rfl, hT, rfl, pair_rel2 (s1.monoF l) (s2.monoF l)⟩⟩
section
variable {X : Cx} {W : Ws} {e e2 : Expr} {pos p tpos : Pos} {elts : List Expr} {kk : Nat}
/-- enumerate's iterator over an argument that is known -/
theorem enum_pi {ta : TA} {R0 : St → Hp → (It → Hp → Prop) → Prop} (hg : Gl X "enumerate") (hm : X.mg "enumerate" = none) (ha : PA X [e] ta) (hs : starEach [e] X.env = [(false, eval e X.env)])
    (h : ∀ (pins : List (Addr × Obj)) (s1 : Shared) (σ : St) (H1 : Hp) (x : V) (u : Value) (R : It → Hp → Prop), Inv X pins σ H1 s1 → RelV x u → R0 [some x] H1 R →
      wpAny (model X.prog X.w) X.A (call (.type "enumerate") [u]) (fun v s2 => wpAny (model X.prog X.w) X.A (pyIter v) (PIE X pins σ (.Tuple elts kk tpos) R) X.xe s2) X.xe s1) :
    PI X (.Tuple elts kk tpos) (.Call (.Name "enumerate" p) [e] [] pos) (fun σ H R => ta σ H fun vs H1 => ∃ x, vs = [x] ∧ R0 [some x] H1 R) := by
  refine ⟨fun pins s σ H R I hh => ?_⟩
  refine PyProof.Rows.Call_ (ld_blt I hg hm PyProof.Rows.boot_enumerate (PyProof.Rows.callWith_type1 (thn (ha.run pos pins s σ H _ I hh) fun us s1 ⟨vs, H1, I1, r1, q1⟩ => ?_) hs rfl))
  obtain ⟨x, ex, q⟩ := q1
  subst ex
  cases r1 with
  | cons r rr =>
    cases rr
    exact h pins s1 σ H1 x _ R I1 r q
theorem pi_enumT {ta : TA} (hg : Gl X "enumerate") (hm : X.mg "enumerate" = none) (ha : PA X [e] ta) (hs : starEach [e] X.env = [(false, eval e X.env)]) :
    PI X (.Tuple elts kk tpos) (.Call (.Name "enumerate" p) [e] [] pos) (fun σ H R => ta σ H fun vs H1 => ∃ x, vs = [x] ∧ ∃ a xs, [some x] = [some (V.ref a)] ∧ SqT X.K H1 a xs ∧ R (IteT X.K a) H1) := by
  refine enum_pi (R0 := fun σ H1 R => ∃ a xs, σ = [some (V.ref a)] ∧ SqT X.K H1 a xs ∧ R (IteT X.K a) H1) hg hm ha hs ?_
  intro pins s1 σ H1 x u R I1 r ⟨a, xs, ex, hq, q⟩
  cases ex
  cases r
  obtain ⟨its, rv, p', hz⟩ := I1.tuple hq
  refine call_enumT p' fun h' he hit hsz hk => wpAny_pyIter_enum he ?_
  have I2 : Inv X pins σ H1 { s1 with heap := h' } := I1.kept (t' := s1.toks) hk
  have hal : a < s1.heap.objs.size := by obtain ⟨o, ho, _⟩ := p'; exact Heap.lt_size ho
  refine ⟨s1.heap.objs.size + 1, [s1.heap.objs.size + 1, s1.heap.objs.size], _, _, H1, rfl, I2, turn_enumT a (s1.heap.objs.size + 1) s1.heap.objs.size, ⟨⟨.none, he⟩, hit, Nat.succ_ne_self _, Nat.ne_of_lt hal, Nat.ne_of_gt (Nat.lt_succ_of_lt hal)⟩, fun b hb => ?_, q⟩
  have hle : s1.heap.objs.size ≤ b := by
    have e' : b = s1.heap.objs.size + 1 ∨ b = s1.heap.objs.size := by simpa using hb
    rcases e' with z | z
    · rw [z]; exact Nat.le_add_right _ _
    · rw [z]; exact Nat.le_refl _
  exact I1.fpOk hle (I1.hok.fresh hle)
theorem pi_enumS {ta : TA} (hg : Gl X "enumerate") (hm : X.mg "enumerate" = none) (ha : PA X [e] ta) (hs : starEach [e] X.env = [(false, eval e X.env)]) :
    PI X (.Tuple elts kk tpos) (.Call (.Name "enumerate" p) [e] [] pos) (fun σ H R => ta σ H fun vs H1 => ∃ x, vs = [x] ∧ ∃ z, [some x] = [some (V.str z)] ∧ R (IteS z) H1) := by
  refine enum_pi (R0 := fun σ H1 R => ∃ z, σ = [some (V.str z)] ∧ R (IteS z) H1) hg hm ha hs ?_
  intro pins s1 σ H1 x u R I1 r ⟨z, ex, q⟩
  cases ex
  obtain ⟨t, rfl⟩ := r
  refine call_enumerate_str fun h' he hit hsz hk => wpAny_pyIter_enum he ?_
  have I2 : Inv X pins σ H1 { s1 with heap := h' } := I1.kept (t' := s1.toks) hk
  refine ⟨s1.heap.objs.size + 1, [s1.heap.objs.size + 1, s1.heap.objs.size], _, _, H1, rfl, I2, turn_enumS z t (s1.heap.objs.size + 1) s1.heap.objs.size, ⟨⟨.none, he⟩, hit, Nat.succ_ne_self _⟩, fun b hb => ?_, q⟩
  have hle : s1.heap.objs.size ≤ b := by
    have e' : b = s1.heap.objs.size + 1 ∨ b = s1.heap.objs.size := by simpa using hb
    rcases e' with z | z
    · rw [z]; exact Nat.le_add_right _ _
    · rw [z]; exact Nat.le_refl _
  exact I1.fpOk hle (I1.hok.fresh hle)
theorem ri_enum {f : M D} (hg : Gl X "enumerate") (hm : X.mg "enumerate" = none) (he : PE X e (tD X.K W f)) (hs : starEach [e] X.env = [(false, eval e X.env)]) :
    PI X (.Tuple elts kk tpos) (.Call (.Name "enumerate" p) [e] [] pos) (tI X.K W (f >>= fun d => ofO ((walkD d).map enumD))) := by
  refine PI.imp' fun σ H R ⟨st, c, A, h⟩ => ?_
  have h : Sat X.K W c σ ((f st).bind fun d => ofO ((walkD d).map enumD)) (Come X.K) R := h
  have ha : PA X [e] (tCons (tD X.K W f) tNil) := pa_cons he pa_nil (by rw [hs]; rfl)
  cases ef : f st with
  | no => rw [ef] at h; exact h.elim
  | ex x s =>
    refine ⟨_, pi_enum hg hm ha hs, ?_⟩
    refine tD_onE A h fun v H1 st1 c1 d e l1 A1 r1 h1 => ?_
    rw [ef] at e; cases e
  | ok d0 s0 =>
    have kill : ∀ {st1 c1 d} {P : Prop}, f st = .ok d st1 → Sat X.K W c1 σ (ofO ((walkD d).map enumD) st1) (Come X.K) R → (d = d0 → Sat X.K W c1 σ (ofO ((walkD d0).map enumD) st1) (Come X.K) R → P) → P := fun e h k => by
      rw [ef] at e; cases e; exact k rfl h
    cases d0 with
    | lst ds =>
      refine ⟨_, pi_enum hg hm ha hs, tD_onE A h fun v H1 st1 c1 d e l1 A1 r1 h1 => kill e h1 fun e2 h2 => ?_⟩
      subst e2
      simp only [Rp] at r1
      obtain ⟨a, xs, rfl, q, r⟩ := r1
      exact ⟨a, xs, rfl, sqL_mono A1.fH q, Sat.now (show Sat X.K W c1 σ (.ok (enumD ds) st1) _ _ from h2) A1 (Come.enumL q r)⟩
    | tup ds =>
      refine ⟨_, pi_enumT hg hm ha hs, tD_onE A h fun v H1 st1 c1 d e l1 A1 r1 h1 => kill e h1 fun e2 h2 => ?_⟩
      subst e2
      simp only [Rp] at r1
      obtain ⟨a, xs, rfl, q, r⟩ := r1
      exact ⟨_, rfl, a, xs, rfl, sqT_mono A1.fH q, Sat.now (show Sat X.K W c1 σ (.ok (enumD ds) st1) _ _ from h2) A1 (Come.enumT q r)⟩
    | str x =>
      refine ⟨_, pi_enumS hg hm ha hs, tD_onE A h fun v H1 st1 c1 d e l1 A1 r1 h1 => kill e h1 fun e2 h2 => ?_⟩
      subst e2
      simp only [Rp] at r1
      subst r1
      exact ⟨_, rfl, x, rfl, Sat.now (show Sat X.K W c1 σ (.ok _ st1) _ _ from h2) A1 (Come.enumS x)⟩
    | _ => rw [ef] at h; exact h.elim
theorem ri_zip {f g : M D} (hg : Gl X "zip") (hm : X.mg "zip" = none) (h1 : PE X e (tD X.K W f)) (h2 : PE X e2 (tD X.K W g)) (hs : starEach [e, e2] X.env = (false, eval e X.env) :: starEach [e2] X.env) (hs2 : starEach [e2] X.env = [(false, eval e2 X.env)]) :
    PI X (.Tuple elts kk tpos) (.Call (.Name "zip" p) [e, e2] [] pos) (tI X.K W (f >>= fun x => g >>= fun y => ofO (zipW x y))) := by
  refine PI.imp' fun σ H R ⟨st, c, A, h⟩ => ⟨_, RZ.pi_zipA hg hm (pa_cons h1 (pa_cons h2 pa_nil (by rw [hs2]; rfl)) hs) hs (by rw [hs2]; rfl), ?_⟩
  refine tD_on A h fun v H1 st1 c1 d l1 A1 r1 h1 => ?_
  refine tD_on A1 h1 fun w H2 st2 c2 d2 l2 A2 r2 h2 => ?_
  obtain ⟨items, ei, h3⟩ := h2.ofO
  have r1' := r1.mono l2
  unfold zipW at ei
  split at ei
  · cases ei
    simp only [Rp] at r1' r2
    obtain ⟨a, xs, rfl, q1, s1⟩ := r1'
    obtain ⟨b, ys, rfl, q2, s2⟩ := r2
    exact ⟨a, b, xs, ys, rfl, .inl ⟨sqL_mono A2.fH q1, sqL_mono A2.fH q2, h3.now A2 (Come.zipL q1 q2 s1 s2)⟩⟩
  · cases ei
    simp only [Rp] at r1' r2
    obtain ⟨a, xs, rfl, q1, s1⟩ := r1'
    obtain ⟨b, ys, rfl, q2, s2⟩ := r2
    exact ⟨a, b, xs, ys, rfl, .inr ⟨sqT_mono A2.fH q1, sqT_mono A2.fH q2, h3.now A2 (Come.zipT q1 q2 s1 s2)⟩⟩
  · cases ei
end
end Pv

set_option maxRecDepth 100000
/-! Pv.Is: isinstance. -/
namespace Pv
open PySem PySem.Spec L2
def Ty.name : Ty → String
  | .int => "int"
  | .bool => "bool"
  | .str => "str"
  | .tuple => "tuple"
  | .list => "list"
def Ty.sname : Ty → Str
  | .int => "int"
  | .bool => "bool"
  | .str => "str"
  | .tuple => "tuple"
  | .list => "list"
theorem sq_ty {K : PySem.W.Frag} {H : Hp} {a : Addr} {xs : List V} (q : SqL K H a xs) : TyX K H (.ref a) (.type "list") := by
  rcases q with (e | ⟨o, e⟩) | ⟨o, its, n, e, c, _⟩
  · exact .base (.lst e)
  · exact .base (.frz e)
  · exact .kList e c
theorem sqT_ty {K : PySem.W.Frag} {H : Hp} {a : Addr} {xs : List V} (q : SqT K H a xs) : TyX K H (.ref a) (.type "tuple") := by
  rcases q with (e | ⟨o, e⟩) | ⟨o, its, n, e, c, _⟩
  · exact .base (.tup e)
  · exact .fTuple e
  · exact .kTuple e c
theorem isiD_some {t : Ty} {d z : D} (h : isiD t [d] = some z) : ∃ n b, z = .bl b ∧ kitB n t.name = some b ∧ ∀ {K : PySem.W.Frag} {c : Gh} {H : Hp} {v : V}, (∀ a o, c.F a = some o → H a = some o) → View K c H d v → TyX K H v (.type n) := by
  cases d with
  | non => cases h; exact ⟨"NoneType", false, rfl, by cases t <;> decide +kernel, fun hF r => by rw [r.non]; exact .base .non⟩
  | bl x => cases h; exact ⟨"bool", _, rfl, by cases t <;> decide +kernel, fun hF r => by rw [r.bl]; exact .base (.bl x)⟩
  | int x => cases h; exact ⟨"int", _, rfl, by cases t <;> decide +kernel, fun hF r => by rw [r.int]; exact .base (.int x)⟩
  | str x => cases h; exact ⟨"str", _, rfl, by cases t <;> decide +kernel, fun hF r => by rw [r.str]; exact .base (.str x)⟩
  | tup ds => cases h; exact ⟨"tuple", _, rfl, by cases t <;> decide +kernel, fun hF r => by
      obtain ⟨a, xs, rfl, q, _⟩ := r.tup hF
      exact sqT_ty q⟩
  | lst ds => cases h; exact ⟨"list", _, rfl, by cases t <;> decide +kernel, fun hF r => by
      obtain ⟨a, xs, rfl, q, _⟩ := r.lst hF
      exact sq_ty q⟩
  | dict k => cases h
  | ref n => cases h
section
variable {X : Cx} {W : Ws} {pos : Pos} {e : Expr}
theorem rl_isi {t : Ty} {f : M P} {g : M (List P)} {x : Str} {p p2 : Pos} (hgf : ∀ s, g s = (f s).bind fun p s => .ok [p] s) (hx : x = "isinstance") (hg : Gl X "isinstance") (hm : X.mg "isinstance" = none) (hg2 : Gl X t.sname) (hm2 : X.mg t.sname = none) (ha : PE X e (tP X.K W f)) (he : starEach [e, .Name t.sname p2] X.env = (false, eval e X.env) :: starEach [.Name t.sname p2] X.env) :
    PE X (.Call (.Name x p) [e, .Name t.sname p2] [] pos) (tF X.K W (g >>= fun ps => getPs ps >>= fun ds => ofO (biD (.isi t) ds))) := by
  subst hx
  have hty : PE X (.Name t.sname p2) (tC (.ty t.name)) := pe_bltn (u := .type t.name) hg2 hm2 (by cases t <;> rfl) rfl (by cases t <;> decide) (by cases t <;> decide)
  refine PE.imp (pe_callB call_isi hg hm rfl (pa_cons ha (pa_cons hty pa_nil (by cases t <;> rfl)) he) (by decide) (by decide) he (by cases t <;> rfl)) fun σ H Q ⟨st, c, A, h⟩ => ?_
  have h : SatF X.K W c σ ((g st).bind fun ps s => (getPs ps s).bind fun ds => ofO (biD (.isi t) ds)) Q := h
  rw [hgf, R.bind_assoc'] at h
  refine tP_in A h fun v H1 st1 c1 p l1 A1 r1 h1 => ?_
  have h2 : SatF X.K W c1 σ ((getPs [p] st1).bind fun ds => ofO (biD (.isi t) ds)) Q := h1
  show rIsi X.K [v, .ty t.name] H1 Q
  have e1 : getPs [p] st1 = (getP p st1).bind fun d s => .ok [d] s := rfl
  rw [e1, R.bind_assoc'] at h2
  obtain ⟨d, ed, h3⟩ := h2.getP
  obtain ⟨z, ez, h4⟩ := SatF.ofO (show SatF X.K W c1 σ (ofO (biD (.isi t) [d]) st1) Q from h3)
  obtain ⟨n, b, rfl, hk, hv⟩ := isiD_some ez
  exact ⟨v, .ty t.name, .type n, .type t.name, b, rfl, .ty _, hv A1.fH (r1.view A1 ed), kit_ty hk, post_bl (h4.now A1)⟩
where
  R.bind_assoc' {α β : Type} {r : R α} {f : α → S → R β} {g : β → S → R D} : (r.bind f).bind g = r.bind fun a s => (f a s).bind g := R.bind_assoc r f g
theorem rl_join {q : Str} {f : M P} {g : M (List P)} {k1 : Nat} {p1 apos : Pos} (hgf : ∀ s, g s = (f s).bind fun p s => .ok [.dv (.str q), p] s) (ha : PE X e (tP X.K W f)) (hs : starEach [e] X.env = [(false, eval e X.env)]) (hline : (apos.endLine == pos.line) = true) :
    PE X (.Call (.Attribute (.Constant (.str q) k1 p1) "join" apos) [e] [] pos) (tF X.K W (g >>= fun ps => getPs ps >>= fun ds => ofO (biD .join ds))) := by
  refine PE.imp (pe_bm PySem.F.plainAttrs_str PySem.F.slot_str_join PySem.F.type_str_join bi_join (pe_str (x := q)) (pa_cons ha pa_nil (by rw [hs]; rfl)) rfl (by rw [hs]; rfl) hline (by rw [hs]; rfl) rfl) fun σ H Q ⟨st, c, A, h⟩ => ?_
  have h : SatF X.K W c σ ((g st).bind fun ps s => (getPs ps s).bind fun ds => ofO (biD .join ds)) Q := h
  rw [hgf, R.bind_assoc] at h
  refine ⟨rfl, tP_in A h fun v H1 st1 c1 p l1 A1 r1 h1 => ?_⟩
  have e1 : ∀ s, getPs [.dv (.str q), p] s = (getP p s).bind fun d s => .ok [.str q, d] s := by
    intro s
    show ((getP (.dv (.str q)) s).bind fun d s => (((getP p s).bind fun d2 s => .ok [d2] s : R (List D))).bind fun ds s => .ok (d :: ds) s) = _
    show ((getP p s).bind fun d2 s => (.ok [d2] s : R (List D))).bind (fun ds s => .ok (.str q :: ds) s) = _
    rw [R.bind_assoc]
    rfl
  have h2 : SatF X.K W c1 σ ((getPs [.dv (.str q), p] st1).bind fun ds => ofO (biD .join ds)) Q := h1
  rw [e1, R.bind_assoc] at h2
  obtain ⟨d, ed, h3⟩ := h2.getP
  obtain ⟨z, ez, h4⟩ := SatF.ofO (show SatF X.K W c1 σ (ofO (biD .join [.str q, d]) st1) Q from h3)
  exact ⟨c1, [.str q, d], z, A1.fH, ⟨_, _, rfl, .inl (by simp only [Rp]), _, _, rfl, r1.view A1 ed, rfl⟩, ez, h4.now A1⟩
end
end Pv

set_option maxRecDepth 100000
/-! Pv.Set: sets whose members are tuples of tuples .. of ints and texts (fewer than 64): made of a list, sorted, counted. -/
namespace Pv
open PySem PySem.Spec L2
abbrev NK := NestedKey
/-- the tuple at a is the key k -/
def KeyAt (h : Heap) (k : NK) (a : Addr) : Prop := NestedIs h k (.ref a) ∧ k.depth ≤ 8
section
variable {P : Program} {w : World} {A : Around} {E : Value → Shared → Prop} {s : Shared}
theorem KeyAt.stay {h h' : Heap} {k : NK} {a : Addr} (x : KeyAt h k a) (st : ∀ b o vs n, h.get? b = some o → o.data = .seq vs n → h'.get? b = some o) : KeyAt h' k a := ⟨x.1.at st, x.2⟩
theorem KeyAt.more {h h' : Heap} {k : NK} {a : Addr} (x : KeyAt h k a) (st : ∀ b o, h.get? b = some o → h'.get? b = some o) : KeyAt h' k a := x.stay fun b o _ _ e _ => st b o e
theorem KeyAt.one {h : Heap} {k l : NK} {a : Addr} (x : KeyAt h k a) (y : KeyAt h l a) : k = l := NestedIs.inj _ _ _ x.1 y.1
/-! ### what the search asks of keys -/
theorem notClass : ∀ (n : Nat) (k : NK) (v : Value) (s : Shared) (Q : Bool → Shared → Prop), NestedIs s.heap k v → k.depth ≤ n → Q false s → wpAny (model P w) A (ofAClassStatement n v) Q E s := by
  intro n
  induction n with
  | zero =>
    intro k v s Q x hd q
    cases x with
    | tup h1 h2 h3 h4 => simp [NestedKey.depth] at hd
    | _ => exact wpAny_of_eq (a := false) rfl q
  | succ n ih =>
    intro k v s Q x hd q
    cases x with
    | @tup a o vs m ks h1 h2 h3 h4 =>
      have hT : s.TypeIs (.ref a) "tuple" := ⟨o, h1, h2⟩
      simp only [NestedKey.depth] at hd
      unfold ofAClassStatement
      refine wpAny_bind (wpAny_typeOf hT ?_)
      dsimp only
      have tt : (("tuple" : String) == "tuple") = true := by decide
      simp only [tt, if_true, Bool.not_true, Bool.false_eq_true, if_false]
      try refine wpAny_bind (wpAny_pure ?_)
      try simp only [Bool.not_true, Bool.false_eq_true, if_false]
      show wpAny _ _ (seqItems? (.ref a) >>= _) _ _ s
      refine wpAny_bind (wpAny_seqItems h1 h3 ?_)
      dsimp only
      refine wpAny_bind ?_
      show wpAny _ _ (forIn vs _ _) _ _ s
      rw [← Array.forIn_toList]
      refine wpAny_forIn_list _ (fun rest r s2 => r.1 = none ∧ s2 = s ∧ ∃ ls, NestedAll s.heap ls rest ∧ NestedKey.depthAll ls ≤ n) _ (fun y rest r s2 ⟨hr, e2, ls, al, dl⟩ => ?_) (fun r s2 ⟨hr, e2, _⟩ => ?_) _ _ ⟨rfl, rfl, ks, h4, by omega⟩
      · subst e2
        cases al with
        | @cons k0 y0 ls0 vs0 x1 x2 =>
          simp only [NestedKey.depthAll] at dl
          refine wpAny_bind (ih k0 y s2 _ x1 (by omega) ?_)
          simp only [Bool.false_eq_true, if_false]
          exact wpAny_pure ⟨rfl, rfl, ls0, x2, by omega⟩
      · obtain ⟨r1, r2⟩ := r
        simp only at hr
        subst hr e2
        exact wpAny_pure q
    | _ => exact wpAny_of_eq (a := false) rfl q
/-- by value or not: it comes to an end -/
theorem byVal : ∀ (n : Nat) (k : NK) (v : Value) (s : Shared) (Q : Bool → Shared → Prop), NestedIs s.heap k v → k.depth ≤ n → (∀ b, Q b s) → wpAny (model P w) A (hashByValue n v) Q E s := by
  intro n
  induction n with
  | zero =>
    intro k v s Q x hd q
    cases x with
    | tup h1 h2 h3 h4 => simp [NestedKey.depth] at hd
    | text => exact wpAny_of_eq (a := false) rfl (q _)
    | _ => exact wpAny_of_eq (a := true) rfl (q _)
  | succ n ih =>
    intro k v s Q x hd q
    cases x with
    | @tup a o vs m ks h1 h2 h3 h4 =>
      have hT : s.TypeIs (.ref a) "tuple" := ⟨o, h1, h2⟩
      simp only [NestedKey.depth] at hd
      unfold hashByValue
      refine wpAny_bind (wpAny_specialOf hT F.slot_tuple_hash.lookup ?_)
      show wpAny _ _ (seqItems? (.ref a) >>= _) _ _ s
      refine wpAny_bind (wpAny_seqItems h1 h3 ?_)
      refine wpAny_bind ?_
      show wpAny _ _ (forIn vs _ _) _ _ s
      rw [← Array.forIn_toList]
      refine wpAny_forIn_list _ (fun rest r s2 => s2 = s ∧ ∃ ls, NestedAll s.heap ls rest ∧ NestedKey.depthAll ls ≤ n) _ (fun y rest r s2 ⟨e2, ls, al, dl⟩ => ?_) (fun r s2 ⟨e2, _⟩ => ?_) _ _ ⟨rfl, ks, h4, by omega⟩
      · subst e2
        cases al with
        | @cons k0 y0 ls0 vs0 x1 x2 =>
          simp only [NestedKey.depthAll] at dl
          refine wpAny_bind (ih k0 y s2 _ x1 (by omega) fun b => ?_)
          cases b with
          | true =>
            simp only [Bool.not_true, Bool.false_eq_true, if_false]
            exact wpAny_pure ⟨rfl, ls0, x2, by omega⟩
          | false =>
            simp only [Bool.not_false, if_true]
            exact wpAny_pure (wpAny_pure (q _))
      · subst e2
        obtain ⟨r1, r2⟩ := r
        cases r1 with
        | none => exact wpAny_pure (q _)
        | some b => exact wpAny_pure (q _)
    | text => exact wpAny_of_eq (a := false) rfl (q _)
    | _ => exact wpAny_of_eq (a := true) rfl (q _)
/-- a search among such keys tells nothing -/
theorem unseen {k : NK} {a : Addr} (x : KeyAt s.heap k a) {ys : List Value} (hy : ∀ y ∈ ys, ∃ l b, y = Value.ref b ∧ KeyAt s.heap l b) {Q : Bool → Shared → Prop} (q : Q false s) : wpAny (model P w) A (searchCouldBeSeen (.ref a) ys) Q E s := by
  unfold searchCouldBeSeen
  refine wpAny_bind ?_
  refine wpAny_forIn_list _ (fun rest r s2 => r.1 = none ∧ s2 = s ∧ ∀ y ∈ rest, ∃ l b, y = Value.ref b ∧ KeyAt s.heap l b) _ (fun y rest r s2 ⟨hr, e2, al⟩ => ?_) (fun r s2 ⟨hr, e2, _⟩ => ?_) _ _ ⟨rfl, rfl, hy⟩
  · subst e2
    obtain ⟨l, b, rfl, hb⟩ := al y (by simp)
    have al' : ∀ y ∈ rest, ∃ l b, y = Value.ref b ∧ KeyAt s2.heap l b := fun y h => al y (by simp [h])
    dsimp only
    split
    · exact wpAny_pure ⟨rfl, rfl, al'⟩
    · refine wpAny_bind (quiet_key k _ 8 s2 x.1 x.2 _ _ _ ?_)
      simp only [Bool.not_true, Bool.false_eq_true, if_false]
      refine wpAny_bind (quiet_key l _ 8 s2 hb.1 hb.2 _ _ _ ?_)
      simp only [Bool.not_true, Bool.false_eq_true, if_false]
      refine wpAny_bind (notClass 8 k _ s2 _ x.1 x.2 ?_)
      simp only [Bool.false_eq_true, if_false]
      refine wpAny_bind (notClass 8 l _ s2 _ hb.1 hb.2 ?_)
      simp only [Bool.false_eq_true, if_false]
      exact wpAny_pure ⟨rfl, rfl, al'⟩
  · obtain ⟨r1, r2⟩ := r
    simp only at hr
    subst hr e2
    exact wpAny_pure q
end

/-! ### the set -/
/-- hash and value -/
def rowK (w : World) (p : Addr × NK) : Int × Value := (p.2.hash w, .ref p.1)
structure NSet (w : World) (h : Heap) (a : Addr) (L : List (Addr × NK)) (es : Array (Int × Value)) (ep : Nat) (t : SetTable) : Prop where
  ob : ∃ o, h.get? a = some o ∧ o.ExactSet ∧ o.data = .set es ep t
  rows : es.toList = L.map (rowK w)
  tab : TabOk t (L.map fun p => p.2.hash w)
  nd : (L.map (·.2)).Nodup
  keys : ∀ p ∈ L, KeyAt h p.2 p.1
  led : w.params.followText "set-order" = true ∨ t.led = true
  room : L.length * 5 < t.mask * 3
  few : L.length < 64
section
variable {P : Program} {w : World} {A : Around} {E : Value → Shared → Prop} {s : Shared} {a x : Addr} {k : NK} {L : List (Addr × NK)} {es : Array (Int × Value)} {ep : Nat} {t : SetTable}
theorem rowsLen (h : es.toList = L.map (rowK w)) : es.size = L.length := by
  have := congrArg List.length h
  simpa using this
theorem fitsOf (h1 : t.place.size = es.size) (h2 : t.dummies = #[]) (h3 : es.size ≤ t.mask) : t.fits es.size = true := by
  unfold SetTable.fits SetTable.fill
  rw [h2, Bool.and_eq_true, beq_iff_eq, decide_eq_true_eq]
  exact ⟨h1, by show t.place.size + 0 ≤ t.mask; omega⟩
theorem NSet.fits (R : NSet w s.heap a L es ep t) : t.fits es.size = true := by
  have h1 := R.tab.sz
  rw [List.length_map] at h1
  have h2 := rowsLen R.rows
  have h3 := R.room
  exact fitsOf (by omega) R.tab.dm (by omega)
theorem rowAt (h : es.toList = L.map (rowK w)) {i : Nat} {p : Addr × NK} (hp : L[i]? = some p) : es[i]? = some (p.2.hash w, Value.ref p.1) := by
  rw [← Array.getElem?_toList, h, List.getElem?_map, hp]
  rfl
/-- the search's c-th state -/
def stAt (t : SetTable) (h : Int) (c : Nat) : SetTable.Probe := nth t.mask (runAt t.mask (SetTable.bits h % (t.mask + 1)) (SetTable.bits h)) c
theorem stAt_add (t : SetTable) (h : Int) (c q : Nat) : nth t.mask (stAt t h c) q = stAt t h (c + q) := (nth_add t.mask c _ q).symm
theorem stAt_dummy (t : SetTable) (h : Int) (c : Nat) : (stAt t h c).dummy = none := by
  have all : ∀ (n : Nat) (p : SetTable.Probe), p.dummy = none → (nth t.mask p n).dummy = none := by
    intro n
    induction n with
    | zero => exact fun p e => e
    | succ n ih =>
      intro p e
      refine ih (adv t.mask p) ?_
      unfold adv
      split <;> exact e
  exact all c _ rfl
/-- what the table answers from the c-th state on, K the first empty place -/
theorem probeAt {hs : List Int} (T : TabOk t hs) {f : Nat → Int} {h : Int} {K c : Nat} (hK : way t.mask h K ∉ t.place.toList) (hb : ∀ c, c < K → way t.mask h c ∈ t.place.toList) (hKf : K < 10 * SetTable.turns t.mask) (hc : c ≤ K) :
    (∃ c' i, c ≤ c' ∧ c' < K ∧ t.place.toList[i]? = some (way t.mask h c') ∧ f i = h ∧ (∀ d j, c ≤ d → d < c' → t.place.toList[j]? = some (way t.mask h d) → f j ≠ h) ∧ t.probe f h (stAt t h c) = some (.candidate (way t.mask h c') i (stAt t h (c' + 1)))) ∨
    ((∀ d j, c ≤ d → d < K → t.place.toList[j]? = some (way t.mask h d) → f j ≠ h) ∧ t.probe f h (stAt t h c) = some (.empty (way t.mask h K) none)) := by
  have wj : ∀ q, (nth t.mask (stAt t h c) q).j = way t.mask h (c + q) := fun q => by rw [stAt_add]; rfl
  have spec := go_spec t T.ris T.dm f h (10 * SetTable.turns t.mask) (K - c) (stAt t h c) (stAt_dummy t h c) (by omega) (fun q hq => by rw [wj]; exact hb (c + q) (by omega)) (by rw [wj, show c + (K - c) = K by omega]; exact hK)
  rcases spec with ⟨q, i, hq, hi, hh, hno, hp⟩ | ⟨hno, hp⟩
  · refine .inl ⟨c + q, i, by omega, by omega, by rw [← wj]; exact hi, hh, fun d j h1 h2 e => hno (d - c) j (by omega) (by rw [wj, show c + (d - c) = d by omega]; exact e), ?_⟩
    rw [show stAt t h (c + q + 1) = nth t.mask (stAt t h c) (q + 1) from (stAt_add t h c (q + 1)).symm, ← wj]
    exact hp
  · refine .inr ⟨fun d j h1 h2 e => hno (d - c) j (by omega) (by rw [wj, show c + (d - c) = d by omega]; exact e), ?_⟩
    rw [show way t.mask h K = (nth t.mask (stAt t h c) (K - c)).j by rw [wj, show c + (K - c) = K by omega]]
    exact hp
/-- the search for a key, from the c-th state on; what is equal lies ahead -/
theorem findFrom (R : NSet w s.heap a L es ep t) (hx : KeyAt s.heap k x) (hu : A.units + 8 < cLine) {K : Nat} (hKf : K < 10 * SetTable.turns t.mask) (hK : way t.mask (k.hash w) K ∉ t.place.toList) (hb : ∀ c, c < K → way t.mask (k.hash w) c ∈ t.place.toList)
    {Q : SetFound → Shared → Prop} (yes : k ∈ L.map (·.2) → Q (.there none) s) (no : k ∉ L.map (·.2) → Q (.free (way t.mask (k.hash w) K) false) s) :
    ∀ (f c : Nat) (stand : Option SetTable.Probe), stand.getD (t.probeStart (k.hash w)) = stAt t (k.hash w) c → c ≤ K → K < f + c →
      (∀ (i : Nat) p, L[i]? = some p → p.2 = k → ∃ d, c ≤ d ∧ d < K ∧ t.place.toList[i]? = some (way t.mask (k.hash w) d)) → wpAny (model P w) A (setSearchFrom a (.ref x) (k.hash w) true f stand) Q E s := by
  obtain ⟨o, ho, hex, hd⟩ := R.ob
  intro f
  induction f with
  | zero => intro c stand _ h1 h2; omega
  | succ f ih =>
    intro c stand hst hc hf ahead
    have hashL : ∀ (i : Nat) p, L[i]? = some p → (fun i => (es[i]?.map (·.1)).getD 0) i = p.2.hash w := fun i p hp => by
      show (es[i]?.map (·.1)).getD 0 = _
      rw [rowAt R.rows hp]
      rfl
    rw [setSearchFrom_succ]
    refine wpAny_bind (wpAny_setState_of ho hd R.fits ?_)
    dsimp only
    have hgw : ¬ t.gaveWay = true := by
      unfold SetTable.gaveWay
      rw [mask_odd R.tab.mok]
      decide
    refine wp_if_neg hgw ?_
    try refine wpAny_bind (wpAny_pure ?_)
    rw [hst]
    rcases probeAt R.tab (f := fun i => (es[i]?.map (·.1)).getD 0) hK hb hKf hc with ⟨c', i, h1, h2, hi, hh, hno, hp⟩ | ⟨hno, hp⟩
    · rw [hp]
      dsimp only
      have hil : i < L.length := by
        have q1 : i < t.place.toList.length := (List.getElem?_eq_some_iff.mp hi).1
        have q2 := R.tab.sz
        rw [List.length_map] at q2
        rw [Array.length_toList] at q1
        omega
      obtain ⟨p, hpi⟩ : ∃ p, L[i]? = some p := ⟨_, List.getElem?_eq_getElem hil⟩
      have hm : p ∈ L := List.mem_of_getElem? hpi
      have slot : t.slot (way t.mask (k.hash w) c') = .live i := slot_live R.tab.ris hi
      have rest : wpAny (model P w) A (searchRest a (.ref x) (k.hash w) true f es t (way t.mask (k.hash w) c') i (stAt t (k.hash w) (c' + 1))) Q E s := by
        unfold searchRest
        rw [rowAt R.rows hpi]
        dsimp only
        refine wpAny_bind (wpAny_holding ((nestedKind P w).eqBool (x := p.2) (y := k) (show A.units + 8 < cLine from hu) (R.keys p hm) hx ?_))
        refine wpAny_bind (wpAny_setState_of ho hd R.fits ?_)
        dsimp only
        by_cases e : p.2 = k
        · refine wp_if_pos (by simp [e]) (wpAny_pure (yes ?_))
          exact List.mem_map.mpr ⟨p, hm, e⟩
        · refine wp_if_neg (by simp [e]) ?_
          try refine wpAny_bind (wpAny_pure ?_)
          rw [sameMem]
          dsimp only
          simp only [if_true, slot, rowAt R.rows hpi]
          refine wpAny_bind (wpAny_isSame_ref_self (wpAny_bind (wpAny_pure ?_)))
          simp only [if_true]
          refine wp_if_neg (by simp [e]) ?_
          refine ih (c' + 1) _ rfl (by omega) (by omega) fun i0 p0 e0 k0 => ?_
          obtain ⟨d, d1, d2, d3⟩ := ahead i0 p0 e0 k0
          refine ⟨d, ?_, d2, d3⟩
          rcases Nat.lt_trichotomy d c' with z | z | z
          · exact (hno d i0 d1 z d3 ((hashL i0 p0 e0).trans (by rw [k0]))).elim
          · subst z
            have s0 := slot_live R.tab.ris d3
            rw [slot] at s0
            injection s0 with s0
            rw [← s0, hpi] at e0
            cases e0
            exact (e k0).elim
          · exact z
      by_cases hl : t.led = true
      · refine wp_if_neg (by simp [hl]) ?_
        try refine wpAny_bind (wpAny_pure ?_)
        exact rest
      · refine wp_if_pos (by simp [hl]) ?_
        refine wpAny_bind (unseen hx (fun y hy => ?_) ?_)
        · obtain ⟨e, he, rfl⟩ := List.mem_map.mp hy
          have he1 : e ∈ es := by
            have : e ∈ es ∧ e.1 = k.hash w := by simpa using he
            exact this.1
          have he2 : e ∈ es.toList := by simpa using he1
          rw [R.rows] at he2
          obtain ⟨p2, hp2, rfl⟩ := List.mem_map.mp he2
          exact ⟨p2.2, p2.1, rfl, R.keys p2 hp2⟩
        · refine wp_if_neg (by decide) ?_
          try refine wpAny_bind (wpAny_pure ?_)
          exact rest
    · rw [hp]
      dsimp only
      refine wpAny_pure (no fun hm => ?_)
      obtain ⟨p0, h0, k0⟩ := List.mem_map.mp hm
      obtain ⟨i0, hi0, e0⟩ := List.getElem_of_mem h0
      have e1 : L[i0]? = some p0 := by rw [List.getElem?_eq_getElem hi0, e0]
      obtain ⟨d, d1, d2, d3⟩ := ahead i0 p0 e1 k0
      exact hno d i0 d1 d2 d3 ((hashL i0 p0 e1).trans (by rw [k0]))
theorem findIt (R : NSet w s.heap a L es ep t) (hx : KeyAt s.heap k x) (hu : A.units + 8 < cLine) {Q : SetFound → Shared → Prop} (yes : k ∈ L.map (·.2) → Q (.there none) s)
    (no : ∀ K, k ∉ L.map (·.2) → way t.mask (k.hash w) K ∉ t.place.toList → (∀ c, c < K → way t.mask (k.hash w) c ∈ t.place.toList) → Q (.free (way t.mask (k.hash w) K) false) s) :
    wpAny (model P w) A (setSearch a (.ref x) (k.hash w) true) Q E s := by
  have hr := R.room
  obtain ⟨K, hKf, hK, hb⟩ := R.tab.first (by rw [List.length_map]; omega) (k.hash w)
  have big : K < 100000 := by
    have : 10 * SetTable.turns t.mask ≤ 1420 := by
      unfold SetTable.turns
      rcases R.tab.mok with e | e | e <;> omega
    omega
  unfold setSearch
  refine findFrom R hx hu hKf hK hb yes (fun hn => no K hn hK hb) 100000 0 none rfl (Nat.zero_le _) (by omega) fun i p hp hk => ?_
  have hi : (L.map fun p => p.2.hash w)[i]? = some (k.hash w) := by
    rw [List.getElem?_map, hp, ← hk]
    rfl
  have hil : i < t.place.toList.length := by
    have q1 : i < L.length := (List.getElem?_eq_some_iff.mp hp).1
    have q2 := R.tab.sz
    rw [List.length_map] at q2
    rw [Array.length_toList]
    omega
  obtain ⟨c, hc, e⟩ := R.tab.before hK hi (List.getElem?_eq_getElem hil)
  exact ⟨c, Nat.zero_le _, hc, by rw [List.getElem?_eq_getElem hil, e]⟩
/-! ### one is added -/
theorem KeyAt.sameSet {h h' : Heap} {b : Addr} {o : Obj} (x : KeyAt h k b) (ho : h.get? a = some o) (hd : o.data = .set es ep t) (sb : Heap.SameBut a h h') : KeyAt h' k b :=
  x.stay fun c u vs n e1 e2 => (sb.2 c fun z => by
    subst z
    rw [ho] at e1
    cases e1
    rw [hd] at e2
    cases e2).trans e1
/-- the rows in another order -/
theorem rowsOrder (order : Array Nat) (hr : es.toList = L.map (rowK w)) (hp : order.toList.Perm (List.range L.length)) :
    ∃ L2 : List (Addr × NK), (order.filterMap (es[·]?)).toList = L2.map (rowK w) ∧ L2.Perm L ∧ (L2.map fun p => p.2.hash w) = order.toList.map fun i => (es.map (·.1)).getD i 0 := by
  have inr : ∀ i ∈ order.toList, i < L.length := fun i hi => List.mem_range.mp (hp.mem_iff.mp hi)
  have part : ∀ l : List Nat, (∀ i ∈ l, i < L.length) → l.filterMap (fun i => es[i]?) = (l.filterMap fun i => L[i]?).map (rowK w) ∧ ((l.filterMap fun i => L[i]?).map fun p => p.2.hash w) = l.map fun i => (es.map (·.1)).getD i 0 := by
    intro l hl
    induction l with
    | nil => exact ⟨rfl, rfl⟩
    | cons i l ih =>
      have hi := hl i (by simp)
      obtain ⟨e1, e2⟩ := ih fun j hj => hl j (by simp [hj])
      have e3 := rowAt hr (List.getElem?_eq_getElem hi)
      rw [List.filterMap_cons, e3, List.filterMap_cons, List.getElem?_eq_getElem hi]
      refine ⟨by simp only [List.map_cons, e1]; rfl, ?_⟩
      simp only [List.map_cons, e2]
      have e4 : (es.map (·.1))[i]? = some ((L[i]).2.hash w) := by rw [Array.getElem?_map, e3]; rfl
      rw [Array.getD_eq_getD_getElem?, e4]
      rfl
  obtain ⟨e1, e2⟩ := part order.toList inr
  have all : (List.range L.length).filterMap (fun i => L[i]?) = L := by
    have : ∀ n, n ≤ L.length → (List.range n).filterMap (fun i => L[i]?) = L.take n := by
      intro n
      induction n with
      | zero => intro _; simp
      | succ n ih =>
        intro hn
        rw [List.range_succ, List.filterMap_append, ih (by omega), List.take_succ, List.getElem?_eq_getElem (show n < L.length by omega)]
        simp [List.getElem?_eq_getElem (show n < L.length by omega)]
    rw [this _ (Nat.le_refl _), List.take_length]
  refine ⟨order.toList.filterMap fun i => L[i]?, by rw [Array.toList_filterMap]; exact e1, ?_, e2⟩
  have := hp.filterMap (fun i => L[i]?)
  rw [all] at this
  exact this
/-- laid anew, larger -/
theorem relayIt {o : Obj} (ho : s.heap.get? a = some o) (hex : o.ExactSet) (hd : o.data = .set es ep t) (hr : es.toList = L.map (rowK w)) (h1 : t.place.size = es.size) (h2 : t.dummies = #[]) (h3 : es.size ≤ t.mask) (nd : (L.map (·.2)).Nodup)
    (ks : ∀ p ∈ L, KeyAt s.heap p.2 p.1) (ld : w.params.followText "set-order" = true ∨ t.led = true) (few : L.length < 64) {wanted M : Nat} (hw : SetTable.sizeAbove wanted - 1 = M) (hM : MaskOk M) (hw2 : SetTable.sizeAbove wanted ≤ 128) (hn : L.length * 5 < M * 3)
    {Q : Unit → Shared → Prop} (q : ∀ h' L' es' ep' t', Heap.SameBut a s.heap h' → NSet w h' a L' es' ep' t' → L'.Perm L → Q () { s with heap := h' }) : wpAny (model P w) A (setRelay a wanted) Q E s := by
  have sz := rowsLen hr
  obtain ⟨t', order, e, hp, T, em, el, _, ed⟩ := relaid_ok t (hs := es.map (·.1)) (wanted := wanted) hw hM (by rw [Array.size_map, sz]; omega)
  rw [Array.size_map, sz] at hp
  obtain ⟨L2, r1, r2, r3⟩ := rowsOrder order hr hp
  rw [← r3] at T
  have sz2 : (order.filterMap (es[·]?)).size = es.size := by rw [rowsLen r1, r2.length_eq, sz]
  rw [setRelay_eq]
  refine wpAny_bind (wpAny_setState_of ho hd (fitsOf h1 h2 h3) ?_)
  dsimp only
  refine wp_if_neg (by rw [sizeLine_eq]; omega) ?_
  try refine wpAny_bind (wpAny_pure ?_)
  rw [e]
  dsimp only
  refine wpAny_bind ?_
  refine wp_if_neg (by rw [sz2]; simp) ?_
  try refine wpAny_bind (wpAny_pure ?_)
  refine wpAny_pure ?_
  dsimp only
  have small : L.length ≤ sizeLine := Nat.le_trans (Nat.le_of_lt few) (by decide)
  refine wpAny_storeSet_of ho hd ?_ (by rw [sz2, sz]; exact small)
  have sb : Heap.SameBut a s.heap (s.heap.update a (Obj.putSet (order.filterMap (es[·]?)) t')) := Heap.SameBut.update ..
  refine q _ L2 _ (ep + 1) t' sb ⟨⟨_, store_at ho hd, ⟨hex.1, hex.2.1, hex.2.2⟩, rfl⟩, r1, T, (r2.map (·.2)).nodup_iff.mpr nd, fun p hpm => (ks p (r2.mem_iff.mp hpm)).sameSet ho hd sb, by rw [el]; exact ld, by rw [r2.length_eq, em]; exact hn, by rw [r2.length_eq]; exact few⟩ r2
theorem insPerm {α : Type} (L : List α) (p : Nat) (x : α) : (L.take p ++ x :: L.drop p).Perm (x :: L) := by
  have h : (L.take p ++ x :: L.drop p).Perm (x :: (L.take p ++ L.drop p)) := List.perm_middle
  rwa [List.take_append_drop] at h
theorem addIt (R : NSet w s.heap a L es ep t) (hx : KeyAt s.heap k x) (hu : A.units + 8 < cLine) (hf : L.length + 1 < 64) {Q : Bool → Shared → Prop}
    (q : ∀ b h' L' es' ep' t', Heap.SameBut a s.heap h' → NSet w h' a L' es' ep' t' → (k ∈ L.map (·.2) → L' = L) → (k ∉ L.map (·.2) → L'.Perm ((x, k) :: L)) → Q b { s with heap := h' }) : wpAny (model P w) A (setAddHashed a (.ref x) (k.hash w)) Q E s := by
  obtain ⟨o, ho, hex, hd⟩ := R.ob
  have sz := rowsLen R.rows
  have hr := R.room
  unfold setAddHashed
  refine wpAny_holding ?_
  rw [show (100000 : Nat) = 99999 + 1 from rfl, setAddHashedIn_succ]
  refine wpAny_bind (wpAny_setState_of ho hd R.fits ?_)
  dsimp only
  refine wp_if_neg (by simp [byScan, Value.scannable]) ?_
  try refine wpAny_bind (wpAny_pure ?_)
  refine wpAny_bind (findIt R hx hu (fun hm => ?_) fun K hm hK hb => ?_)
  · dsimp only
    exact wpAny_pure (q false s.heap L es ep t (Heap.SameBut.refl a s.heap) R (fun _ => rfl) fun z => absurd hm z)
  · dsimp only
    refine wpAny_bind (wpAny_setState_of ho hd R.fits ?_)
    dsimp only
    obtain ⟨q1, q2, q3, q4, q5, _, _, _, q9⟩ := R.tab.put hK hb
    have rows1 : (SetTable.insertAt es (t.put (way t.mask (k.hash w) K)).2 (k.hash w, Value.ref x)).toList = (L.take (t.put (way t.mask (k.hash w) K)).2 ++ (x, k) :: L.drop (t.put (way t.mask (k.hash w) K)).2).map (rowK w) := by
      rw [SetTable.toList_insertAt, R.rows, List.map_append, List.map_cons, List.map_take, List.map_drop]
      rfl
    have tab1 : TabOk (t.put (way t.mask (k.hash w) K)).1 ((L.take (t.put (way t.mask (k.hash w) K)).2 ++ (x, k) :: L.drop (t.put (way t.mask (k.hash w) K)).2).map fun p => p.2.hash w) := by
      rw [List.map_append, List.map_cons, List.map_take, List.map_drop, q1]
      exact q3
    have pm := insPerm L (t.put (way t.mask (k.hash w) K)).2 (x, k)
    generalize L.take (t.put (way t.mask (k.hash w) K)).2 ++ (x, k) :: L.drop (t.put (way t.mask (k.hash w) K)).2 = L1 at rows1 tab1 pm
    have sz1 := rowsLen rows1
    have ln1 : L1.length = L.length + 1 := pm.length_eq
    have nd1 : (L1.map (·.2)).Nodup := (pm.map (·.2)).nodup_iff.mpr (List.nodup_cons.mpr ⟨hm, R.nd⟩)
    have led1 : w.params.followText "set-order" = true ∨ (t.put (way t.mask (k.hash w) K)).1.led = true := by rw [q5]; exact R.led
    -- whatever 'plain' is from now on
    have go : ∀ b : Bool, wpAny (model P w) A (do
        storeSet a (SetTable.insertAt es (t.put (way t.mask (k.hash w) K)).2 (k.hash w, Value.ref x)) (if b = true then (t.put (way t.mask (k.hash w) K)).1 else { (t.put (way t.mask (k.hash w) K)).1 with plain := false })
        if (!false && (if b = true then (t.put (way t.mask (k.hash w) K)).1 else { (t.put (way t.mask (k.hash w) K)).1 with plain := false }).tooFull) = true then setRelay a (SetTable.grown (es.size + 1))
        return true) Q E s := by
      intro b
      obtain ⟨t1, ht1, m1, l1, f1, T1⟩ : ∃ t1, (if b = true then (t.put (way t.mask (k.hash w) K)).1 else { (t.put (way t.mask (k.hash w) K)).1 with plain := false }) = t1 ∧ t1.mask = t.mask ∧ (w.params.followText "set-order" = true ∨ t1.led = true) ∧ t1.fill = L.length + 1 ∧ TabOk t1 (L1.map fun p => p.2.hash w) := by
        have f0 : (t.put (way t.mask (k.hash w) K)).1.fill = L.length + 1 := by rw [q9, List.length_map]
        cases b with
        | true => exact ⟨_, rfl, q4, led1, f0, tab1⟩
        | false => exact ⟨_, rfl, q4, led1, f0, ⟨tab1.ris, tab1.dm, tab1.sz, tab1.mok, tab1.bd, tab1.reach⟩⟩
      rw [ht1]
      have small : es.size + 1 ≤ sizeLine := Nat.le_trans (by omega : es.size + 1 ≤ 64) (by decide)
      generalize SetTable.insertAt es (t.put (way t.mask (k.hash w) K)).2 (k.hash w, Value.ref x) = es1 at rows1 sz1 ⊢
      refine wpAny_bind (wpAny_storeSet_of ho hd ?_ (by rw [sz1, ln1, ← sz]; exact small))
      have sb : Heap.SameBut a s.heap (s.heap.update a (Obj.putSet es1 t1)) := Heap.SameBut.update ..
      have ho1 := store_at (es' := es1) (t' := t1) ho hd
      generalize s.heap.update a (Obj.putSet es1 t1) = h1 at sb ho1 ⊢
      have ks1 : ∀ p ∈ L1, KeyAt h1 p.2 p.1 := fun p hp => by
        rcases List.mem_cons.mp (pm.mem_iff.mp hp) with e | hp
        · rw [e]; exact hx.sameSet ho hd sb
        · exact (R.keys p hp).sameSet ho hd sb
      have pl1 : t1.place.size = es1.size := by
        have z := T1.sz
        rw [List.length_map] at z
        omega
      by_cases full : t1.tooFull = true
      · have hfull : (L.length + 1) * 5 ≥ t1.mask * 3 := by
          have z := full
          unfold SetTable.tooFull at z
          rw [decide_eq_true_eq, f1] at z
          exact z
        rw [m1] at hfull
        have two : (t.mask = 7 ∧ L.length = 4) ∨ (t.mask = 31 ∧ L.length = 18) := by
          rcases R.tab.mok with e | e | e
          · left; rw [e] at hfull hr; exact ⟨e, by omega⟩
          · right; rw [e] at hfull hr; exact ⟨e, by omega⟩
          · exfalso; rw [e] at hfull; omega
        have lay : ∀ M, SetTable.sizeAbove (SetTable.grown (L.length + 1)) - 1 = M → MaskOk M → SetTable.sizeAbove (SetTable.grown (L.length + 1)) ≤ 128 → (L.length + 1) * 5 < M * 3 →
            wpAny (model P w) A (setRelay a (SetTable.grown (es.size + 1))) (fun _ s' => wpAny (model P w) A (pure true) Q E s') E { s with heap := h1 } := fun M z1 z2 z3 z4 => by
          rw [sz]
          exact relayIt (s := { s with heap := h1 }) ho1 ⟨hex.1, hex.2.1, hex.2.2⟩ rfl rows1 pl1 T1.dm (by rw [sz1, ln1, m1]; rcases two with ⟨e, e2⟩ | ⟨e, e2⟩ <;> omega) nd1 ks1 l1 (by omega) z1 z2 z3 (by rw [ln1]; exact z4)
            fun h2 L2 es2 ep2 t2 sb2 R2 pm2 => wpAny_pure (q true h2 L2 es2 ep2 t2 (sb.trans sb2) R2 (fun z => absurd z hm) fun _ => pm2.trans pm)
        have fin : wpAny (model P w) A (setRelay a (SetTable.grown (es.size + 1))) (fun _ s' => wpAny (model P w) A (pure true) Q E s') E { s with heap := h1 } := by
          rcases two with ⟨_, e2⟩ | ⟨_, e2⟩
          · exact lay 31 (by rw [e2, size_20]) (.inr (.inl rfl)) (by rw [e2, size_20]; decide) (by omega)
          · exact lay 127 (by rw [e2, size_76]) (.inr (.inr rfl)) (by rw [e2, size_76]; decide) (by omega)
        first
          | (refine wpAny_bind ?_; refine wp_if_pos (by simp [full]) ?_; exact fin)
          | (refine wp_if_pos (by simp [full]) ?_; exact wpAny_bind fin)
      · have notfull : ¬ (L.length + 1) * 5 ≥ t1.mask * 3 := fun z => full (by
          unfold SetTable.tooFull
          rw [decide_eq_true_eq, f1]
          exact z)
        have fin : Q true { s with heap := h1 } := q true h1 L1 es1 (ep + 1) t1 sb ⟨⟨_, ho1, ⟨hex.1, hex.2.1, hex.2.2⟩, rfl⟩, rows1, T1, nd1, ks1, l1, by rw [ln1]; omega, by omega⟩ (fun z => absurd z hm) fun _ => pm
        first
          | (refine wp_if_neg (by simp [full]) ?_; exact wpAny_pure fin)
          | (refine wpAny_bind ?_; refine wp_if_neg (by simp [full]) ?_; exact wpAny_pure (wpAny_pure fin))
    by_cases hp : (t.put (way t.mask (k.hash w) K)).1.plain = true
    · first
        | (refine wp_if_pos hp ?_; refine wpAny_bind (byVal 8 k _ s _ hx.1 hx.2 fun b => ?_); exact go b)
        | (refine wpAny_bind ?_; refine wp_if_pos hp ?_; refine byVal 8 k _ s _ hx.1 hx.2 fun b => ?_; exact go b)
    · first
        | (refine wp_if_neg hp ?_; exact go true)
        | (refine wpAny_bind ?_; refine wp_if_neg hp ?_; refine wpAny_pure ?_; exact go true)
end
end Pv

set_option maxRecDepth 100000
/-! Pv.Set2: set(xs), sorted and len of it. -/
namespace Pv
open PySem PySem.Spec L2
/-- what has come of the first i -/
structure Some1 (ks : List (Addr × NK)) (i : Nat) (L : List (Addr × NK)) : Prop where
  sub : ∀ p ∈ L, p ∈ ks.take i
  all : ∀ p ∈ ks.take i, p.2 ∈ L.map (·.2)
  len : L.length ≤ i
section
variable {P : Program} {w : World} {A : Around} {E : Value → Shared → Prop} {s : Shared} {a x : Addr} {k : NK} {L : List (Addr × NK)} {es : Array (Int × Value)} {ep : Nat} {t : SetTable}
theorem takeSucc {α : Type} {l : List α} {i : Nat} {y : α} (h : l[i]? = some y) : l.take (i + 1) = l.take i ++ [y] := by
  rw [List.take_succ, h]; rfl
theorem Some1.step {ks L L' : List (Addr × NK)} {i : Nat} {p : Addr × NK} (g : Some1 ks i L) (h : ks[i]? = some p) (c1 : p.2 ∈ L.map (·.2) → L' = L) (c2 : p.2 ∉ L.map (·.2) → L'.Perm (p :: L)) : Some1 ks (i + 1) L' := by
  by_cases hm : p.2 ∈ L.map (·.2)
  · rw [c1 hm]
    refine ⟨fun q hq => ?_, fun q hq => ?_, Nat.le_succ_of_le g.len⟩
    · rw [takeSucc h]; exact List.mem_append_left _ (g.sub q hq)
    · rw [takeSucc h] at hq
      rcases List.mem_append.mp hq with z | z
      · exact g.all q z
      · rw [List.mem_singleton.mp z]; exact hm
  · have pm := c2 hm
    refine ⟨fun q hq => ?_, fun q hq => ?_, by rw [pm.length_eq, List.length_cons]; have := g.len; omega⟩
    · rw [takeSucc h]
      rcases List.mem_cons.mp (pm.mem_iff.mp hq) with z | z
      · rw [z]; simp
      · exact List.mem_append_left _ (g.sub q z)
    · rw [(pm.map (·.2)).mem_iff, List.map_cons]
      rw [takeSucc h] at hq
      rcases List.mem_append.mp hq with z | z
      · exact List.mem_cons_of_mem _ (g.all q z)
      · rw [List.mem_singleton.mp z]; exact List.mem_cons_self
theorem NSet.still {h h' : Heap} (R : NSet w h a L es ep t) (e : h'.get? a = h.get? a) (ks : ∀ p ∈ L, KeyAt h' p.2 p.1) : NSet w h' a L es ep t := by
  obtain ⟨o, ho, r⟩ := R.ob
  exact ⟨⟨o, e.trans ho, r⟩, R.rows, R.tab, R.nd, ks, R.led, R.room, R.few⟩
abbrev newSet0 (w : World) : Obj := { cls := .type "set", dict := none, data := .set #[] 0 (.fresh 0 0 (!w.params.followText "set-order")) }
theorem NSet.none {h : Heap} (ho : h.get? a = some (newSet0 w)) : NSet w h a [] #[] 0 (.fresh 0 0 (!w.params.followText "set-order")) := by
  refine ⟨⟨_, ho, ⟨rfl, rfl, rfl⟩, rfl⟩, rfl, ⟨List.Pairwise.nil, rfl, rfl, .inl rfl, fun x hx => (nomatch hx), fun i h j hi => by simp at hi⟩, List.nodup_nil, fun p hp => (nomatch hp), ?_, by show 0 * 5 < 7 * 3; decide, by show 0 < 64; decide⟩
  show _ ∨ (!w.params.followText "set-order") = true
  cases w.params.followText "set-order" <;> simp
/-- the loop of set.update over an iterator -/
theorem updLoop {I : Addr} {fp wr : List Addr} {G : Array GenState → Array GenState → Prop} {n : Nat} {Pv : Nat → Value → Prop} {St : Nat → Shared → Prop} {R : Result → Shared → Prop} (W : WalksS P w A.in1 I fp wr G n Pv St) (S : Addr) (hSf : S ∉ fp)
    (ks : List (Addr × NK)) (hn : n = ks.length) (few : ks.length < 64) (val : ∀ i v, Pv i v → ∃ p, ks[i]? = some p ∧ v = .ref p.1) (h0 : Heap) (hk : ∀ p ∈ ks, KeyAt h0 p.2 p.1) (hS0 : h0.get? S = Option.none) (hw0 : ∀ b ∈ wr, h0.get? b = Option.none) (hu : A.in1.units + 8 < cLine) :
    ∀ (m i : Nat) (s : Shared), i + m = n → St i s → (∀ b o, h0.get? b = some o → s.heap.get? b = some o) → (∃ L es ep t, NSet w s.heap S L es ep t ∧ Some1 ks i L) →
      (∀ s' L es ep t, Moved (S :: wr) G s s' → NSet w s'.heap S L es ep t → Some1 ks n L → (∀ b o, h0.get? b = some o → s'.heap.get? b = some o) → R (.ok (.ret .none)) s') →
      codeAny (model P w) A (.builtin "set.update.loop" ⟨[.ref S, .ref I], []⟩) R s := by
  have hSw : S ∉ wr := fun z => hSf (W.sub _ z)
  have wide : ∀ b ∈ wr, b ∈ S :: wr := fun b hb => List.mem_cons_of_mem _ hb
  have later : ∀ {s s' : Shared}, Moved wr G s s' → (∀ b o, h0.get? b = some o → s.heap.get? b = some o) → ∀ b o, h0.get? b = some o → s'.heap.get? b = some o := fun mv kp b o e =>
    mv.heap b o (fun hb => by rw [hw0 b hb] at e; cases e) (kp b o e)
  have keyed : ∀ {s : Shared} {i : Nat} {L : List (Addr × NK)}, (∀ b o, h0.get? b = some o → s.heap.get? b = some o) → Some1 ks i L → ∀ p ∈ L, KeyAt s.heap p.2 p.1 := fun kp g p hp => (hk p (List.mem_of_mem_take (g.sub p hp))).more kp
  intro m
  induction m with
  | zero =>
    intro i s him hst kp ⟨L, es, ep, t, hS, g⟩ hR
    have hin : i = n := by omega
    subst hin
    refine codeAny_builtin PyProof.Rows.F.entry_set_update_loop ?_
    rw [Around.under_plainId PyProof.Rows.F.plain_set_update_loop _]
    show wpAny _ A.in1 (pyNext (.ref I) >>= _) _ _ s
    refine wpAny_bind (W.done s _ _ hst fun s2 mv => ?_)
    show wpAny _ A.in1 (ret Value.none) _ _ s2
    have kp2 := later mv kp
    obtain ⟨o, ho, _⟩ := hS.ob
    exact wpAny_pure (hR s2 L es ep t (mv.mono wide) (hS.still ((mv.heap S o hSw ho).trans ho.symm) (keyed kp2 g)) g kp2)
  | succ m ih =>
    intro i s him hst kp ⟨L, es, ep, t, hS, g⟩ hR
    refine codeAny_builtin PyProof.Rows.F.entry_set_update_loop ?_
    rw [Around.under_plainId PyProof.Rows.F.plain_set_update_loop _]
    show wpAny _ A.in1 (pyNext (.ref I) >>= _) _ _ s
    refine wpAny_bind (W.item i s _ _ (by omega) hst fun v s2 hP hst2 mv => ?_)
    obtain ⟨p, hp, rfl⟩ := val i v hP
    have kp2 := later mv kp
    obtain ⟨o, ho, _⟩ := hS.ob
    have hS2 : NSet w s2.heap S L es ep t := hS.still ((mv.heap S o hSw ho).trans ho.symm) (keyed kp2 g)
    have hx : KeyAt s2.heap p.2 p.1 := (hk p (List.mem_of_getElem? hp)).more kp2
    show wpAny _ A.in1 (holding [Value.ref p.1] (setAdd S (.ref p.1)) >>= _) _ _ s2
    refine wpAny_bind (wpAny_holding ?_)
    unfold setAdd
    refine wpAny_holding (wpAny_bind ((nestedKind P w).pyHash (k := p.2) (show A.in1.units + 8 < cLine from hu) hx ?_))
    refine addIt (s := { s2 with toks := s2.toks + (nestedKind P w).draws p.2 }) hS2 hx hu (by have := g.len; omega) fun b h2 L2 es2 ep2 t2 sb R2 c1 c2 => ?_
    have kp3 : ∀ b o, h0.get? b = some o → h2.get? b = some o := fun b o e => (sb.2 b fun z => by rw [z, hS0] at e; cases e).trans (kp2 b o e)
    refine wpAny_pure ⟨plainId_quiet PyProof.Rows.F.plain_set_update_loop _, ih (i + 1) _ (by omega) (W.frame _ s2 _ _ hst2 (Nat.le_add_right _ _) fun b hb o e => ?_) kp3 ⟨L2, es2, ep2, t2, R2, g.step hp c1 c2⟩ fun s3 L3 es3 ep3 t3 mv3 R3 g3 kp4 => ?_⟩
    · rw [sb.2 b fun z => hSf (z ▸ hb)]; exact e
    · refine hR s3 L3 es3 ep3 t3 (Moved.trans W.gtrans ((mv.mono wide).then_heap (Nat.le_add_right _ _) fun b o hb e => ?_) mv3) R3 g3 kp4
      rw [sb.2 b fun z => hb (z ▸ List.mem_cons_self)]; exact e
set_option maxHeartbeats 3200000 in
/-- set(xs) of a list -/
theorem callSet {l : Addr} {items : Array Value} (ks : List (Addr × NK)) {Q : Value → Shared → Prop} (hh : A.handled = Option.none) (hl : s.heap.IsList l items) (hit : items.toList = ks.map fun p => Value.ref p.1) (hk : ∀ p ∈ ks, KeyAt s.heap p.2 p.1) (few : ks.length < 64) (hu : A.units + 32 < cLine)
    (q : ∀ (h2 : Heap) (tk : Nat) L es ep t, NSet w h2 s.heap.objs.size L es ep t → Some1 ks ks.length L → (∀ b o, s.heap.get? b = some o → h2.get? b = some o) → Q (.ref s.heap.objs.size) { s with heap := h2, toks := tk }) :
    wpAny (model P w) A (call (.type "set") [.ref l]) Q E s := by
  have szi : items.size = ks.length := by
    have := congrArg List.length hit
    simpa using this
  obtain ⟨c, tl, hmro⟩ := F.called_set.mro
  have hmade := F.called_set.made
  have hsub := F.called_set.sub
  refine wpAny_call (codeAny_of_tree ?_)
  show wpAny _ _ (callAny (.type "set") _) _ _ _
  refine wpAny_pure ⟨Code.quiet_builtin _ (by decide +kernel), codeAny_builtin F.entry_type_call ?_⟩
  rw [Around.under_plain (weight_type_call_type "set" [.ref l] []) rfl]
  have f1 := F.called_set.notType
  have f2 := F.called_set.canCreate
  have f3 := F.typeCall_set_1 (.ref l)
  repeat (any_goals (first | assumption | wp_step))
  refine codeAny_mono (code_set_led1 (.ref l) (E := E) (Q₁ := fun ob s1 => ob = .ref s.heap.objs.size ∧ s1 = { s with heap := s.heap.push (newSet0 w) }) ⟨rfl, rfl⟩) fun r s1 hr => ?_
  cases r with
  | error e => exact hr
  | ok fl =>
    cases fl with
    | ret ob =>
      obtain ⟨rfl, rfl⟩ := hr
      have hS : (s.heap.push (newSet0 w)).get? s.heap.objs.size = some (newSet0 w) := Heap.get?_push_size _ rfl
      have hT : Shared.TypeIs { s with heap := s.heap.push (newSet0 w) } (.ref s.heap.objs.size) "set" := ⟨_, hS, rfl⟩
      have f4 := F.called_set.init.lookup
      have f5 := F.called_set.init.bind (.ref s.heap.objs.size)
      repeat (any_goals (first | assumption | wp_step))
      refine codeAny_mono (codeAny_call_builtin (R := wants (fun r s2 => r = .none ∧ ∃ h2 tk L es ep t, s2 = { s with heap := h2, toks := tk } ∧ NSet w h2 s.heap.objs.size L es ep t ∧ Some1 ks ks.length L ∧ (∀ b o, s.heap.get? b = some o → h2.get? b = some o)) E) F.called_set.init.plain F.entry_set_init (check_set_init_1 hT ?_)) fun r2 s2 hr2 => ?_
      · obtain ⟨⟨ocls, odict, odata, oslots⟩, hol, hcl, nl, hdl⟩ := hl
        simp only at hcl hdl
        subst hcl hdl
        have hol2 : (s.heap.push (newSet0 w)).get? l = some { cls := .type "list", dict := odict, data := .seq items nl, slots := oslots } := Heap.get?_push_of_some _ hol
        have f6 := F.sub_list_set
        have f7 := F.sub_list_frozenset
        have f8 : (Value.type "list" == Value.type "dict") = false := by decide
        have hl2 : (s.heap.push (newSet0 w)).IsList l items := ⟨_, hol2, rfl, nl, rfl⟩
        unfold Builtin.«set.__init__» noKeywords Builtin.Frozenset.updateFrom
        generalize hPI : pyIter = PI
        wp_walk
        subst hPI
        refine wpAny_pyIter_list hl2 (wpAny_bind (wpAny_runValue ?_))
        have lt : l < s.heap.objs.size := Heap.lt_size hol
        have hz : (s.heap.push (newSet0 w)).objs.size = s.heap.objs.size + 1 := Heap.size_push ..
        have free : ∀ b, s.heap.objs.size ≤ b → s.heap.get? b = Option.none := fun b hb => by
          cases z : s.heap.get? b with
          | none => rfl
          | some o => exact absurd (Nat.lt_of_lt_of_le (Heap.lt_size z) hb) (Nat.lt_irrefl _)
        have hh3 : A.in1.in1.in1.handled = Option.none := by simp [hh]
        have ne1 : l ≠ (s.heap.push (newSet0 w)).objs.size := by rw [hz]; exact Nat.ne_of_lt (Nat.lt_succ_of_lt lt)
        have val : ∀ (i : Nat) (v : Value), items[i]? = some v → ∃ p, ks[i]? = some p ∧ v = .ref p.1 := fun i v hv => by
          rw [← Array.getElem?_toList, hit, List.getElem?_map] at hv
          cases z : ks[i]? with
          | none => rw [z] at hv; cases hv
          | some p => rw [z] at hv; cases hv; exact ⟨p, rfl, rfl⟩
        refine updLoop ((Walks.list hh3 _ l ne1 items).toS) s.heap.objs.size ?_ ks szi few val s.heap hk (free _ (Nat.le_refl _)) (fun b hb => free b (by rw [List.mem_singleton.mp hb, hz]; exact Nat.le_succ _)) (by simp only [Around.in1_units]; omega) items.size 0 _ (by omega)
          ⟨⟨_, Heap.get?_push_size _ rfl, rfl, rfl⟩, hl2.push _⟩ (fun b o e => Heap.get?_push_of_some _ (Heap.get?_push_of_some _ e)) ⟨[], #[], 0, _, NSet.none (Heap.get?_push_of_some _ hS), ⟨fun p h => (nomatch h), fun p h => by simp at h, Nat.le_refl _⟩⟩ fun s3 L es ep t mv R3 g3 kp => ?_
        · rw [hz]
          simp only [List.mem_cons, List.not_mem_nil, or_false, not_or]
          exact ⟨Nat.ne_of_lt (Nat.lt_succ_self _), Nat.ne_of_gt lt⟩
        · obtain ⟨h3, g3', d3, tk3, os3⟩ := s3
          have e1 : g3' = s.gens := mv.gens
          have e2 : d3 = s.drawn := mv.drawn
          have e3 : os3 = s.os := mv.os
          subst e1 e2 e3
          show wpAny _ _ _ _ _ _
          refine wpAny_pure ?_
          show wpAny _ _ (ret Value.none) _ _ _
          rw [szi] at g3
          exact wpAny_pure ⟨rfl, h3, tk3, L, es, ep, t, rfl, R3, g3, kp⟩
      · cases r2 with
        | error e => exact hr2
        | ok fl2 =>
          cases fl2 with
          | ret r =>
            obtain ⟨rfl, h2, tk, L, es, ep, t, rfl, R2, g2, kp⟩ := hr2
            repeat (any_goals (first | assumption | wp_step))
            exact q _ _ _ _ _ _ R2 g2 kp
          | _ => exact hr2.elim
    | _ => exact hr.elim
set_option maxHeartbeats 3200000 in
/-- set(xs) of a tuple -/
theorem callSetT {l : Addr} {items : Array Value} (ks : List (Addr × NK)) {Q : Value → Shared → Prop} (hh : A.handled = Option.none) (hl : s.heap.IsTuple l items) (hit : items.toList = ks.map fun p => Value.ref p.1) (hk : ∀ p ∈ ks, KeyAt s.heap p.2 p.1) (few : ks.length < 64) (hu : A.units + 32 < cLine)
    (q : ∀ (h2 : Heap) (tk : Nat) L es ep t, NSet w h2 s.heap.objs.size L es ep t → Some1 ks ks.length L → (∀ b o, s.heap.get? b = some o → h2.get? b = some o) → Q (.ref s.heap.objs.size) { s with heap := h2, toks := tk }) :
    wpAny (model P w) A (call (.type "set") [.ref l]) Q E s := by
  have szi : items.size = ks.length := by
    have := congrArg List.length hit
    simpa using this
  obtain ⟨c, tl, hmro⟩ := F.called_set.mro
  have hmade := F.called_set.made
  have hsub := F.called_set.sub
  refine wpAny_call (codeAny_of_tree ?_)
  show wpAny _ _ (callAny (.type "set") _) _ _ _
  refine wpAny_pure ⟨Code.quiet_builtin _ (by decide +kernel), codeAny_builtin F.entry_type_call ?_⟩
  rw [Around.under_plain (weight_type_call_type "set" [.ref l] []) rfl]
  have f1 := F.called_set.notType
  have f2 := F.called_set.canCreate
  have f3 := F.typeCall_set_1 (.ref l)
  repeat (any_goals (first | assumption | wp_step))
  refine codeAny_mono (code_set_led1 (.ref l) (E := E) (Q₁ := fun ob s1 => ob = .ref s.heap.objs.size ∧ s1 = { s with heap := s.heap.push (newSet0 w) }) ⟨rfl, rfl⟩) fun r s1 hr => ?_
  cases r with
  | error e => exact hr
  | ok fl =>
    cases fl with
    | ret ob =>
      obtain ⟨rfl, rfl⟩ := hr
      have hS : (s.heap.push (newSet0 w)).get? s.heap.objs.size = some (newSet0 w) := Heap.get?_push_size _ rfl
      have hT : Shared.TypeIs { s with heap := s.heap.push (newSet0 w) } (.ref s.heap.objs.size) "set" := ⟨_, hS, rfl⟩
      have f4 := F.called_set.init.lookup
      have f5 := F.called_set.init.bind (.ref s.heap.objs.size)
      repeat (any_goals (first | assumption | wp_step))
      refine codeAny_mono (codeAny_call_builtin (R := wants (fun r s2 => r = .none ∧ ∃ h2 tk L es ep t, s2 = { s with heap := h2, toks := tk } ∧ NSet w h2 s.heap.objs.size L es ep t ∧ Some1 ks ks.length L ∧ (∀ b o, s.heap.get? b = some o → h2.get? b = some o)) E) F.called_set.init.plain F.entry_set_init (check_set_init_1 hT ?_)) fun r2 s2 hr2 => ?_
      · obtain ⟨⟨ocls, odict, odata, oslots⟩, hol, hcl, nl, hdl⟩ := hl
        simp only at hcl hdl
        subst hcl hdl
        have hol2 : (s.heap.push (newSet0 w)).get? l = some { cls := .type "tuple", dict := odict, data := .seq items nl, slots := oslots } := Heap.get?_push_of_some _ hol
        have f6 := F.sub_tuple_set
        have f7 := F.sub_tuple_frozenset
        have f8 : (Value.type "tuple" == Value.type "dict") = false := by decide
        have hl2 : (s.heap.push (newSet0 w)).IsTuple l items := ⟨_, hol2, rfl, nl, rfl⟩
        unfold Builtin.«set.__init__» noKeywords Builtin.Frozenset.updateFrom
        generalize hPI : pyIter = PI
        wp_walk
        subst hPI
        refine wpAny_pyIter_tuple hl2 (wpAny_bind (wpAny_runValue ?_))
        have lt : l < s.heap.objs.size := Heap.lt_size hol
        have hz : (s.heap.push (newSet0 w)).objs.size = s.heap.objs.size + 1 := Heap.size_push ..
        have free : ∀ b, s.heap.objs.size ≤ b → s.heap.get? b = Option.none := fun b hb => by
          cases z : s.heap.get? b with
          | none => rfl
          | some o => exact absurd (Nat.lt_of_lt_of_le (Heap.lt_size z) hb) (Nat.lt_irrefl _)
        have hh3 : A.in1.in1.in1.handled = Option.none := by simp [hh]
        have ne1 : l ≠ (s.heap.push (newSet0 w)).objs.size := by rw [hz]; exact Nat.ne_of_lt (Nat.lt_succ_of_lt lt)
        have val : ∀ (i : Nat) (v : Value), items[i]? = some v → ∃ p, ks[i]? = some p ∧ v = .ref p.1 := fun i v hv => by
          rw [← Array.getElem?_toList, hit, List.getElem?_map] at hv
          cases z : ks[i]? with
          | none => rw [z] at hv; cases hv
          | some p => rw [z] at hv; cases hv; exact ⟨p, rfl, rfl⟩
        refine updLoop ((Walks.tuple hh3 _ l ne1 items).toS) s.heap.objs.size ?_ ks szi few val s.heap hk (free _ (Nat.le_refl _)) (fun b hb => free b (by rw [List.mem_singleton.mp hb, hz]; exact Nat.le_succ _)) (by simp only [Around.in1_units]; omega) items.size 0 _ (by omega)
          ⟨⟨_, Heap.get?_push_size _ rfl, rfl, rfl⟩, hl2.push _⟩ (fun b o e => Heap.get?_push_of_some _ (Heap.get?_push_of_some _ e)) ⟨[], #[], 0, _, NSet.none (Heap.get?_push_of_some _ hS), ⟨fun p h => (nomatch h), fun p h => by simp at h, Nat.le_refl _⟩⟩ fun s3 L es ep t mv R3 g3 kp => ?_
        · rw [hz]
          simp only [List.mem_cons, List.not_mem_nil, or_false, not_or]
          exact ⟨Nat.ne_of_lt (Nat.lt_succ_self _), Nat.ne_of_gt lt⟩
        · obtain ⟨h3, g3', d3, tk3, os3⟩ := s3
          have e1 : g3' = s.gens := mv.gens
          have e2 : d3 = s.drawn := mv.drawn
          have e3 : os3 = s.os := mv.os
          subst e1 e2 e3
          show wpAny _ _ _ _ _ _
          refine wpAny_pure ?_
          show wpAny _ _ (ret Value.none) _ _ _
          rw [szi] at g3
          exact wpAny_pure ⟨rfl, h3, tk3, L, es, ep, t, rfl, R3, g3, kp⟩
      · cases r2 with
        | error e => exact hr2
        | ok fl2 =>
          cases fl2 with
          | ret r =>
            obtain ⟨rfl, h2, tk, L, es, ep, t, rfl, R2, g2, kp⟩ := hr2
            repeat (any_goals (first | assumption | wp_step))
            exact q _ _ _ _ _ _ R2 g2 kp
          | _ => exact hr2.elim
    | _ => exact hr.elim
end
end Pv

set_option maxRecDepth 100000
/-! Pv.Set3: sorted(set(xs)), by values. -/
namespace Pv
open PySem PySem.Spec L2
mutual
/-- a value as a key -/
def keyD : D → Option NK
  | .non => some .none
  | .bl b => some (.num (if b = true then 1 else 0))
  | .int i => some (.num i)
  | .str s => some (.text s)
  | .tup ds => (keyDs ds).map .tup
  | _ => none
def keyDs : List D → Option (List NK)
  | [] => some []
  | d :: ds => match keyD d, keyDs ds with
    | some k, some ks => some (k :: ks)
    | _, _ => none
end
mutual
theorem keyD_depth : ∀ (d : D) (k : NK), keyD d = some k → k.depth = d.dep
  | .non, k, h => by cases h; rfl
  | .bl b, k, h => by cases h; rfl
  | .int i, k, h => by cases h; rfl
  | .str s, k, h => by cases h; rfl
  | .tup ds, k, h => by
    have h : (keyDs ds).map NestedKey.tup = some k := h
    cases e : keyDs ds with
    | none => rw [e] at h; cases h
    | some ks =>
      rw [e] at h
      cases h
      simp only [NestedKey.depth, D.dep, keyDs_depth ds ks e]
  | .lst ds, k, h => by cases h
  | .dict ds, k, h => by cases h
  | .ref ds, k, h => by cases h
theorem keyDs_depth : ∀ (ds : List D) (ks : List NK), keyDs ds = some ks → NestedKey.depthAll ks = D.depL ds
  | [], ks, h => by cases h; rfl
  | d :: ds, ks, h => by
    rw [keyDs] at h
    cases e1 : keyD d with
    | none => rw [e1] at h; cases h
    | some k =>
      cases e2 : keyDs ds with
      | none => rw [e1, e2] at h; cases h
      | some ks' =>
        rw [e1, e2] at h
        cases h
        simp only [NestedKey.depthAll, D.depL, keyD_depth d k e1, keyDs_depth ds ks' e2]
end
mutual
theorem keyD_inj : ∀ (d e : D) (k : NK), d.ali e = true → keyD d = some k → keyD e = some k → d = e
  | .non, e, k, h, h1, h2 => by cases e <;> first | rfl | cases h
  | .bl a, e, k, h, h1, h2 => by
    cases e <;> first | cases h; done | skip
    rename_i b
    cases h1
    have h2 : some (NestedKey.num (if b = true then 1 else 0)) = some (NestedKey.num (if a = true then 1 else 0)) := h2
    cases a <;> cases b <;> first | rfl | (simp at h2)
  | .int a, e, k, h, h1, h2 => by
    cases e <;> first | cases h; done | skip
    cases h1; cases h2; rfl
  | .str a, e, k, h, h1, h2 => by
    cases e <;> first | cases h; done | skip
    cases h1; cases h2; rfl
  | .tup a, e, k, h, h1, h2 => by
    cases e <;> first | cases h; done | skip
    rename_i b
    simp only [D.ali] at h
    have h1 : (keyDs a).map NestedKey.tup = some k := h1
    have h2 : (keyDs b).map NestedKey.tup = some k := h2
    cases e1 : keyDs a with
    | none => rw [e1] at h1; cases h1
    | some ks =>
      cases e2 : keyDs b with
      | none => rw [e2] at h2; cases h2
      | some ls =>
        rw [e1] at h1
        rw [e2] at h2
        cases h1; cases h2
        rw [keyDs_inj a b ks h e1 e2]
  | .lst a, e, k, h, h1, h2 => by cases h1
  | .dict a, e, k, h, h1, h2 => by cases h1
  | .ref a, e, k, h, h1, h2 => by cases h1
theorem keyDs_inj : ∀ (ds es : List D) (ks : List NK), D.aliL ds es = true → keyDs ds = some ks → keyDs es = some ks → ds = es
  | [], [], ks, _, _, _ => rfl
  | [], e :: es, ks, h, h1, h2 => by
    cases h1
    rw [keyDs] at h2
    split at h2 <;> cases h2
  | d :: ds, [], ks, h, h1, h2 => by
    cases h2
    rw [keyDs] at h1
    split at h1 <;> cases h1
  | d :: ds, e :: es, ks, h, h1, h2 => by
    simp only [D.aliL, Bool.and_eq_true] at h
    rw [keyDs] at h1 h2
    cases a1 : keyD d <;> cases a2 : keyDs ds <;> (try (rw [a1, a2] at h1; cases h1))
    cases b1 : keyD e <;> cases b2 : keyDs es <;> (try (rw [b1, b2] at h2; cases h2))
    rw [keyD_inj d e _ h.1 a1 b1, keyDs_inj ds es _ h.2 a2 b2]
end
section
variable {X : Cx} {pins : List (Addr × Obj)} {σ : St} {H : Hp} {s : Shared} {c : Gh}
mutual
/-- what is so in the heap -/
theorem key_is (I : L2.Inv X pins σ H s) (hF : ∀ a o, c.F a = some o → H a = some o) : ∀ (d : D) (v : V) (u : Value) (k : NK), Rp X.K c d v → RelV v u → keyD d = some k → NestedIs s.heap k u
  | .non, v, u, k, r, q, h => by
    simp only [Rp] at r
    subst r; cases h; cases q
    exact .none
  | .bl b, v, u, k, r, q, h => by
    simp only [Rp] at r
    subst r; cases h; cases q
    exact .bool rfl
  | .int b, v, u, k, r, q, h => by
    simp only [Rp] at r
    subst r; cases h
    obtain ⟨t, rfl⟩ := q
    exact .int b t
  | .str b, v, u, k, r, q, h => by
    simp only [Rp] at r
    subst r; cases h
    obtain ⟨t, rfl⟩ := q
    exact .text b t
  | .tup ds, v, u, k, r, q, h => by
    simp only [Rp] at r
    obtain ⟨a, xs, rfl, hq, rl⟩ := r
    cases q
    have h : (keyDs ds).map NestedKey.tup = some k := h
    cases e : keyDs ds with
    | none => rw [e] at h; cases h
    | some ks =>
      rw [e] at h
      cases h
      obtain ⟨its, rv, ⟨o, ho, hc, n, hd⟩, hz⟩ := I.tuple (sqT_mono hF hq)
      exact .tup ho hc hd (by simpa using keys_are I hF ds xs its ks rl rv e)
  | .lst ds, v, u, k, r, q, h => by cases h
  | .dict ds, v, u, k, r, q, h => by cases h
  | .ref ds, v, u, k, r, q, h => by cases h
theorem keys_are (I : L2.Inv X pins σ H s) (hF : ∀ a o, c.F a = some o → H a = some o) : ∀ (ds : List D) (vs : List V) (us : List Value) (ks : List NK), RpL X.K c ds vs → Vals vs us → keyDs ds = some ks → NestedAll s.heap ks us
  | [], vs, us, ks, r, q, h => by
    simp only [RpL] at r
    subst r; cases h; cases q
    exact .nil
  | d :: ds, vs, us, ks, r, q, h => by
    simp only [RpL] at r
    obtain ⟨y, ys, rfl, r1, r2⟩ := r
    rw [keyDs] at h
    cases a1 : keyD d <;> cases a2 : keyDs ds <;> (try (rw [a1, a2] at h; cases h))
    cases q with
    | cons q1 q2 => exact .cons (key_is I hF d y _ _ r1 q1 a1) (keys_are I hF ds ys _ _ r2 q2 a2)
end
end
/-! ### the set among what is tracked -/
structure NSet0 (w : World) (h : Heap) (a : Addr) (L : List (Addr × NK)) : Prop where
  ex : ∃ (es : Array (Int × Value)) (ep : Nat) (t : SetTable), (∃ o, h.get? a = some o ∧ o.ExactSet ∧ o.data = .set es ep t) ∧ es.toList = L.map (rowK w) ∧ TabOk t (L.map fun p => p.2.hash w) ∧ (L.map (·.2)).Nodup ∧
    (w.params.followText "set-order" = true ∨ t.led = true) ∧ L.length * 5 < t.mask * 3 ∧ L.length < 64
def SetO (w : World) (a : Addr) (L : List (Addr × NK)) : HO := .ext fun h => NSet0 w h a L
theorem NSet.s0 {w : World} {h : Heap} {a : Addr} {L : List (Addr × NK)} {es : Array (Int × Value)} {ep : Nat} {t : SetTable} (R : NSet w h a L es ep t) : NSet0 w h a L := ⟨es, ep, t, R.ob, R.rows, R.tab, R.nd, R.led, R.room, R.few⟩
theorem setO_ok {P : Program} {w : World} {H : Hp} {h : Heap} {a : Addr} {L : List (Addr × NK)} (R : NSet0 w h a L) : ObjOk P w H h a (SetO w a L) := by
  obtain ⟨es, ep, t, ⟨o, ho, r⟩, q⟩ := R.ex
  exact ⟨R, ⟨o, ho⟩, fun h1 h2 p k => by
    obtain ⟨es', ep', t', ⟨o', ho', r'⟩, q'⟩ := NSet0.ex p
    exact ⟨es', ep', t', ⟨o', k o' ho', r'⟩, q'⟩⟩
section
variable {X : Cx} {pins : List (Addr × Obj)} {σ : St} {H : Hp} {s : Shared} {c : Gh}
mutual
/-- .. and as data, no list within -/
theorem key_reads (I : L2.Inv X pins σ H s) (hF : ∀ a o, c.F a = some o → H a = some o) : ∀ (d : D) (v : V) (u : Value) (k : NK), Rp X.K c d v → RelV v u → keyD d = some k → Reads s.heap u d.toP []
  | .non, v, u, k, r, q, h => by
    simp only [Rp] at r
    subst r; cases q
    exact .none
  | .bl b, v, u, k, r, q, h => by
    simp only [Rp] at r
    subst r; cases q
    exact .bool b
  | .int b, v, u, k, r, q, h => by
    simp only [Rp] at r
    subst r
    obtain ⟨t, rfl⟩ := q
    exact .int b t
  | .str b, v, u, k, r, q, h => by
    simp only [Rp] at r
    subst r
    obtain ⟨t, rfl⟩ := q
    exact .str b t
  | .tup ds, v, u, k, r, q, h => by
    simp only [Rp] at r
    obtain ⟨a, xs, rfl, hq, rl⟩ := r
    cases q
    have h : (keyDs ds).map NestedKey.tup = some k := h
    cases e : keyDs ds with
    | none => rw [e] at h; cases h
    | some ks =>
      obtain ⟨its, rv, ⟨o, ho, hc, n, hd⟩, hz⟩ := I.tuple (sqT_mono hF hq)
      exact .tuple ho hc hd (by simpa using keys_reads I hF ds xs its ks rl rv e)
  | .lst ds, v, u, k, r, q, h => by cases h
  | .dict ds, v, u, k, r, q, h => by cases h
  | .ref ds, v, u, k, r, q, h => by cases h
theorem keys_reads (I : L2.Inv X pins σ H s) (hF : ∀ a o, c.F a = some o → H a = some o) : ∀ (ds : List D) (vs : List V) (us : List Value) (ks : List NK), RpL X.K c ds vs → Vals vs us → keyDs ds = some ks → ReadsAll s.heap us (D.toPs ds) []
  | [], vs, us, ks, r, q, h => by
    simp only [RpL] at r
    subst r; cases q
    exact .nil
  | d :: ds, vs, us, ks, r, q, h => by
    simp only [RpL] at r
    obtain ⟨y, ys, rfl, r1, r2⟩ := r
    rw [keyDs] at h
    cases a1 : keyD d <;> cases a2 : keyDs ds <;> (try (rw [a1, a2] at h; cases h))
    cases q with
    | cons q1 q2 => exact .cons (as := []) (bs := []) (key_reads I hF d y _ _ r1 q1 a1) (keys_reads I hF ds ys _ _ r2 q2 a2)
end
theorem Inv.sh {s' : Shared} (I : L2.Inv X pins σ H s) (h : s'.heap = s.heap) (g : s'.gens = s.gens) (o : s'.os = s.os) : L2.Inv X pins σ H s' := by
  obtain ⟨hp, gs, dr, tk, os⟩ := s'
  simp only at h g o
  subst h g o
  exact ⟨I.ok, I.os, I.bare, I.base, I.loc, I.cell, I.free, I.freeC, I.pin, I.hok, I.len⟩
end
/-- the tuples of a list: addresses, keys -/
theorem keyRows {K : PySem.W.Frag} {c : Gh} : ∀ {ds : List D} {xs : List V} {us : List Value}, RpL K c ds xs → Vals xs us → (∀ d ∈ ds, ∃ ds', d = .tup ds') → (∀ d ∈ ds, (keyD d).isSome = true) →
    ∃ ks : List (Addr × NK), us = ks.map (fun p => Value.ref p.1) ∧ ks.length = ds.length ∧ ∀ (i : Nat) d p, ds[i]? = some d → ks[i]? = some p → Rp K c d (.ref p.1) ∧ keyD d = some p.2
  | [], xs, us, r, v, _, _ => by
    simp only [RpL] at r
    subst r; cases v
    exact ⟨[], rfl, rfl, fun i d p e => by simp at e⟩
  | d :: ds, xs, us, r, v, ht, hk => by
    simp only [RpL] at r
    obtain ⟨y, ys, rfl, r1, r2⟩ := r
    cases v with
    | cons v1 v2 =>
      obtain ⟨ks, e1, e2, e3⟩ := keyRows r2 v2 (fun d hd => ht d (by simp [hd])) (fun d hd => hk d (by simp [hd]))
      obtain ⟨ds', rfl⟩ := ht d (by simp)
      have hs := hk (.tup ds') (by simp)
      cases ek : keyD (.tup ds') with
      | none => rw [ek] at hs; cases hs
      | some k =>
        have r1' := r1
        simp only [Rp] at r1'
        obtain ⟨a, zs, rfl, _⟩ := r1'
        cases v1
        refine ⟨(a, k) :: ks, by rw [e1]; rfl, by simp [e2], fun i d p a1 a2 => ?_⟩
        cases i with
        | zero =>
          simp only [List.getElem?_cons_zero, Option.some.injEq] at a1 a2
          subst a1 a2
          exact ⟨r1, ek⟩
        | succ i =>
          rw [List.getElem?_cons_succ] at a1 a2
          exact e3 i d p a1 a2
/-- set(xs) -/
def rSetOf (K : PySem.W.Frag) (w : World) : List V → Hp → VK → Prop := fun xs H Q => ∃ (c : Gh) (ds : List D) (x : V), xs = [x] ∧ (∀ a o, c.F a = some o → H a = some o) ∧ (View K c H (.lst ds) x ∨ View K c H (.tup ds) x) ∧
  ds.length < 64 ∧ (∀ d ∈ ds, ∃ ds', d = .tup ds') ∧ (∀ d ∈ ds, (keyD d).isSome = true ∧ d.dep ≤ 8) ∧
  ∀ a L, H a = none → (∀ p ∈ L, ∃ d ∈ ds, Rp K c d (.ref p.1) ∧ keyD d = some p.2) → (∀ d ∈ ds, ∃ p ∈ L, keyD d = some p.2) → (L.map (·.2)).Nodup → Q (.ref a) (upd H a (SetO w a L))
theorem getSame {α β : Type} {as : List α} {bs : List β} (h : bs.length = as.length) {b : β} (hb : b ∈ bs) : ∃ (i : Nat) (a : α), as[i]? = some a ∧ bs[i]? = some b := by
  obtain ⟨i, hi⟩ := List.getElem?_of_mem hb
  have hl : i < bs.length := (List.getElem?_eq_some_iff.mp hi).1
  exact ⟨i, as[i]'(h ▸ hl), List.getElem?_eq_getElem _, hi⟩
theorem cr_set {X : Cx} (hc : X.calm = true) (hu : X.A.units + 64 < cLine) : CallR X (.type "set") (rSetOf X.K X.w) := by
  intro pins s σ H xs us Q I r ⟨c, ds, x, e, hF, hv, few, tp, kk, q⟩
  subst e
  obtain ⟨u, rfl, ru⟩ := vals1 r
  rcases hv with hv | hv
  · obtain ⟨l, vs, rfl, hq, rl⟩ := hv.lst hF
    cases ru
    obtain ⟨its, rv, pl, hz⟩ := I.list hq
    obtain ⟨ks, e1, e2, e3⟩ := keyRows rl rv tp (fun d hd => (kk d hd).1)
    have kat : ∀ p ∈ ks, KeyAt s.heap p.2 p.1 := fun p hp => by
      obtain ⟨i, d, a1, a2⟩ := getSame e2 hp
      obtain ⟨r1, r2⟩ := e3 i d p a1 a2
      exact ⟨key_is I hF d _ _ _ r1 rfl r2, by rw [keyD_depth d _ r2]; exact (kk d (List.mem_of_getElem? a1)).2⟩
    refine callSet ks (I.ok.hd hc) pl.isList (by simpa using e1) kat (by omega) (by omega) fun h2 tk L es ep t R g kp => ?_
    refine ⟨.ref _, upd H s.heap.objs.size (SetO X.w s.heap.objs.size L), I.laid kp (Nat.le_refl _) (setO_ok R.s0), rfl, q _ L (I.hok.fresh (Nat.le_refl _)) (fun p hp => ?_) (fun d hd => ?_) R.nd⟩
    · have hp' : p ∈ ks := by have := g.sub p hp; rwa [List.take_length] at this
      obtain ⟨i, d, a1, a2⟩ := getSame e2 hp'
      exact ⟨d, List.mem_of_getElem? a1, e3 i d p a1 a2⟩
    · obtain ⟨i, p, a1, a2⟩ := getSame e2.symm hd
      have hp' : p ∈ ks.take ks.length := by rw [List.take_length]; exact List.mem_of_getElem? a1
      obtain ⟨p2, hp2, e4⟩ := List.mem_map.mp (g.all p hp')
      exact ⟨p2, hp2, by rw [(e3 i d p a2 a1).2, e4]⟩
  · obtain ⟨l, vs, rfl, hq, rl⟩ := hv.tup hF
    cases ru
    obtain ⟨its, rv, pl, hz⟩ := I.tuple hq
    obtain ⟨ks, e1, e2, e3⟩ := keyRows rl rv tp (fun d hd => (kk d hd).1)
    have kat : ∀ p ∈ ks, KeyAt s.heap p.2 p.1 := fun p hp => by
      obtain ⟨i, d, a1, a2⟩ := getSame e2 hp
      obtain ⟨r1, r2⟩ := e3 i d p a1 a2
      exact ⟨key_is I hF d _ _ _ r1 rfl r2, by rw [keyD_depth d _ r2]; exact (kk d (List.mem_of_getElem? a1)).2⟩
    refine callSetT ks (I.ok.hd hc) pl (by simpa using e1) kat (by omega) (by omega) fun h2 tk L es ep t R g kp => ?_
    refine ⟨.ref _, upd H s.heap.objs.size (SetO X.w s.heap.objs.size L), I.laid kp (Nat.le_refl _) (setO_ok R.s0), rfl, q _ L (I.hok.fresh (Nat.le_refl _)) (fun p hp => ?_) (fun d hd => ?_) R.nd⟩
    · have hp' : p ∈ ks := by have := g.sub p hp; rwa [List.take_length] at this
      obtain ⟨i, d, a1, a2⟩ := getSame e2 hp'
      exact ⟨d, List.mem_of_getElem? a1, e3 i d p a1 a2⟩
    · obtain ⟨i, p, a1, a2⟩ := getSame e2.symm hd
      have hp' : p ∈ ks.take ks.length := by rw [List.take_length]; exact List.mem_of_getElem? a1
      obtain ⟨p2, hp2, e4⟩ := List.mem_map.mp (g.all p hp')
      exact ⟨p2, hp2, by rw [(e3 i d p a2 a1).2, e4]⟩
/-! ### sorted -/
theorem permMap {α β : Type} {f : α → β} {vs ws : List β} (h : vs.Perm ws) : ∀ L : List α, ws = L.map f → ∃ L' : List α, L'.Perm L ∧ vs = L'.map f := by
  induction h with
  | nil =>
    intro L e
    cases L with
    | nil => exact ⟨[], List.Perm.nil, rfl⟩
    | cons a l => cases e
  | cons x _ ih =>
    intro L e
    cases L with
    | nil => cases e
    | cons a l =>
      simp only [List.map_cons, List.cons.injEq] at e
      obtain ⟨L', p, e2⟩ := ih l e.2
      exact ⟨a :: L', p.cons a, by rw [e2, e.1]; rfl⟩
  | swap x y l =>
    intro L e
    match L, e with
    | a :: b :: r, e =>
      simp only [List.map_cons, List.cons.injEq] at e
      exact ⟨b :: a :: r, List.Perm.swap a b r, by rw [e.1, e.2.1, e.2.2]; rfl⟩
    | [], e => cases e
    | [a], e => simp at e
  | trans _ _ ih1 ih2 =>
    intro L e
    obtain ⟨L1, p1, e1⟩ := ih2 L e
    obtain ⟨L2, p2, e2⟩ := ih1 L1 e1
    exact ⟨L2, p2.trans p1, e2⟩
def rSortSet (K : PySem.W.Frag) (w : World) : List V → Hp → VK → Prop := fun xs H Q => ∃ (c : Gh) (a : Addr) (L : List (Addr × NK)) (ds : List D), xs = [.ref a] ∧ (∀ a o, c.F a = some o → H a = some o) ∧ H a = some (SetO w a L) ∧ ds.length = L.length ∧
  (∀ (i : Nat) d p, ds[i]? = some d → L[i]? = some p → Rp K c d (.ref p.1) ∧ keyD d = some p.2) ∧ aliAll ds = true ∧ srtAll ds = true ∧ D.plL ds = true ∧ D.depL ds ≤ 8 ∧
  ∀ p ys, H p = none → RpL K c (ds.mergeSort dLe) ys → ys.length ≤ sizeLine → Q (.ref p) (upd H p (.lst ys))
theorem sort_any {X : Cx} {pins : List (Addr × Obj)} {σ : St} {H : Hp} {s : Shared} (hu : X.A.units + 64 < cLine) {Q : VK} {c : Gh} {a : Addr} {L : List (Addr × NK)} {ds : List D} (I : L2.Inv X pins σ H s)
    (hcol : ∀ (R : List Value → Shared → Prop) (E : Value → Shared → Prop), (∀ (s1 : Shared) (vs : List Value), (∀ b u, s.heap.get? b = some u → s1.heap.get? b = some u) → s1.gens = s.gens → s1.os = s.os → vs.Perm (L.map fun p => Value.ref p.1) → R vs s1) → wpAny (model X.prog X.w) X.A.in1 (collect (.ref a)) R E s)
    (few : L.length < 64) (hF : ∀ a o, c.F a = some o → H a = some o) (hl : ds.length = L.length)
    (hk : ∀ (i : Nat) d p, ds[i]? = some d → L[i]? = some p → Rp X.K c d (.ref p.1) ∧ keyD d = some p.2) (h1 : aliAll ds = true) (h2 : srtAll ds = true) (h4 : D.plL ds = true) (h5 : D.depL ds ≤ 8)
    (q : ∀ p ys, H p = none → RpL X.K c (ds.mergeSort dLe) ys → ys.length ≤ sizeLine → Q (.ref p) (upd H p (.lst ys))) : wpAny (model X.prog X.w) X.A (call (.builtin "sorted") [.ref a]) (EP X pins σ Q) X.xe s := by
  refine Calls.call_function_entry PyProof.Rows.kind_sorted PyProof.Rows.plain_sorted PyProof.Rows.entry_sorted (PyProof.Rows.args_sorted1 _) ?_
  unfold Builtin.«sorted»
  refine wpAny_bind (m := checkCount "sorted" 1 1 _) (wpAny_pure ?_)
  refine wpAny_bind (hcol _ _ fun s1 vs k1 g1 o1 pm => ?_)
  have I1 : L2.Inv X pins σ H s1 := Inv.sh (I.kept (t' := s1.toks) k1) rfl g1 o1
  -- the data with them
  obtain ⟨M, pM, eM⟩ := permMap (f := fun q : D × (Addr × NK) => Value.ref q.2.1) pm (ds.zip L) (by
    have := List.map_snd_zip (l₁ := ds) (l₂ := L) (by omega)
    have z : (ds.zip L).map (fun q : D × (Addr × NK) => Value.ref q.2.1) = ((ds.zip L).map Prod.snd).map (fun p : Addr × NK => Value.ref p.1) := by rw [List.map_map]; rfl
    rw [z, this])
  have mem : ∀ m ∈ M, Rp X.K c m.1 (.ref m.2.1) ∧ keyD m.1 = some m.2.2 ∧ m.1 ∈ ds := fun m hm => by
    obtain ⟨i, hi⟩ := List.getElem?_of_mem (pM.mem_iff.mp hm)
    have z := List.getElem?_zip_eq_some.mp hi
    exact ⟨(hk i m.1 m.2 z.1 z.2).1, (hk i m.1 m.2 z.1 z.2).2, List.mem_of_getElem? z.1⟩
  have dsM : (M.map Prod.fst).Perm ds := by
    have := pM.map Prod.fst
    rwa [List.map_fst_zip (by omega)] at this
  have vl : vs.length = M.length := by rw [eM, List.length_map]
  have Ml : M.length < 64 := by rw [pM.length_eq, List.length_zip]; omega
  have fits : vs.length ≤ sizeLine := Nat.le_trans (by omega : vs.length ≤ 64) (by decide)
  refine wpAny_bind (wpAny_newList ?_ fits)
  have hoL : (s1.heap.push (PyProof.Rows.seqObj "list" vs.toArray 0)).get? s1.heap.objs.size = some (PyProof.Rows.seqObj "list" vs.toArray 0) := Heap.get?_push_size _ rfl
  have I2 : L2.Inv X pins σ H { s1 with heap := s1.heap.push (PyProof.Rows.seqObj "list" vs.toArray 0) } := I1.kept (t' := s1.toks) fun b u e => Heap.get?_push_of_some _ e
  have vat : ∀ (i : Nat) v m, vs[i]? = some v → M[i]? = some m → v = .ref m.2.1 := fun i v m e1 e2 => by
    rw [eM, List.getElem?_map, e2] at e1
    cases e1
    rfl
  have menc : M.map (fun m => m.1.toP) = (M.map Prod.fst).map D.toP := by rw [List.map_map]; rfl
  have aliM : aliAll (M.map Prod.fst) = true := by
    unfold aliAll at h1 ⊢
    rw [List.all_eq_true] at h1 ⊢
    intro x hx
    have z := h1 x (dsM.mem_iff.mp hx)
    rw [List.all_eq_true] at z ⊢
    exact fun y hy => z y (dsM.mem_iff.mp hy)
  have plM : ∀ m ∈ M, m.1.pl = true := fun m hm => plL_mem h4 (mem m hm).2.2
  have plLM : D.plL (M.map Prod.fst) = true := by
    have all : ∀ zs : List D, (∀ z ∈ zs, z.pl = true) → D.plL zs = true := by
      intro zs
      induction zs with
      | nil => intro _; rfl
      | cons z zs ih => intro hz; simp only [D.plL, hz z (by simp), ih fun y hy => hz y (by simp [hy]), Bool.and_self]
    refine all _ fun z hz => ?_
    obtain ⟨m, hm, rfl⟩ := List.mem_map.mp hz
    exact plM m hm
  have srtM : srtAll (M.map Prod.fst) = true := by
    unfold srtAll at h2 ⊢
    rw [Bool.or_eq_true, List.all_eq_true, List.all_eq_true] at h2 ⊢
    rcases h2 with z | z
    · exact .inl fun x hx => z x (dsM.mem_iff.mp hx)
    · exact .inr fun x hx => z x (dsM.mem_iff.mp hx)
  refine wpAny_bind (wpAny_holding (PySem.W.list_sort_data (s := { s1 with heap := s1.heap.push (PyProof.Rows.seqObj "list" vs.toArray 0) }) (β := D × (Addr × NK)) (enc := fun m => m.1.toP) (R := fun v m => v = .ref m.2.1 ∧ m ∈ M) (bs := M) hoL
    (each_zip vl fun i v m e1 e2 => ⟨vat i v m e1 e2, List.mem_of_getElem? e2⟩) (each_zip vl fun i v m e1 e2 => ?_) (by rw [menc]; exact aliAll_of aliM) (by rw [menc]; exact srtAll_of plLM srtM) (Nat.le_trans (by omega : M.length ≤ 64) (by decide)) (fun m hm => ?_) fun out hol hE => ?_))
  · obtain ⟨r1, r2, _⟩ := mem m (List.mem_of_getElem? e2)
    rw [vat i v m e1 e2]
    exact ⟨[], key_reads I2 hF m.1 _ _ _ r1 rfl r2, by simp⟩
  · rw [toP_dep]
    have z := depL_mem (mem m hm).2.2
    have e1 : X.A.in1.units = X.A.units + 1 := by simp
    omega
  · obtain ⟨ep2, hep⟩ := PyProof.Rows.sortedHeap_at (vs := vs) (out := out.toArray) hoL
    let cs := M.mergeSort (PySem.W.dataLe false fun m => m.1.toP)
    have hcl : cs.length = M.length := by simp [cs]
    have hds : cs.map Prod.fst = ds.mergeSort dLe := by
      have e1 : cs.map Prod.fst = (M.map Prod.fst).mergeSort dLe := PySem.W.sort_maps (r := PySem.W.dataLe false fun m : D × (Addr × NK) => m.1.toP) (s := dLe) Prod.fst fun a _ b _ => rfl
      rw [e1]
      refine sort_perm dsM (fun x hx y hy => ?_) fun x hx => ?_
      · unfold aliAll at aliM
        exact List.all_eq_true.mp (List.all_eq_true.mp aliM x hx) y hy
      · obtain ⟨m, hm, rfl⟩ := List.mem_map.mp hx
        exact plM m hm
    have hV : Vals (cs.map fun m => V.ref m.2.1) out := by
      have go : ∀ {out : List Value} {cs : List (D × (Addr × NK))}, PySem.W.EachIs (fun v (m : D × (Addr × NK)) => v = .ref m.2.1 ∧ m ∈ M) out cs → Vals (cs.map fun m => V.ref m.2.1) out := by
        intro out cs h
        induction h with
        | nil => exact .nil
        | cons r _ ih => exact .cons r.1 ih
      exact go hE
    have hR : RpL X.K c (cs.map Prod.fst) (cs.map fun m => V.ref m.2.1) := RpL.of_get (by simp) fun i d v e1 e2 => by
      rw [List.getElem?_map] at e1 e2
      cases e : cs[i]? with
      | none => rw [e] at e1; cases e1
      | some m =>
        rw [e] at e1 e2
        cases e1; cases e2
        exact (mem m (List.mem_mergeSort.mp (List.mem_of_getElem? e))).1
    have hz2 : (cs.map fun m => V.ref m.2.1).length ≤ sizeLine := by rw [List.length_map, hcl]; exact Nat.le_trans (by omega : M.length ≤ 64) (by decide)
    have keep : ∀ b u, s1.heap.get? b = some u → (PyProof.Rows.sortedHeap (s1.heap.push (PyProof.Rows.seqObj "list" vs.toArray 0)) s1.heap.objs.size vs out.toArray).get? b = some u := fun b u e => by
      have lt := Heap.lt_size e
      rw [PyProof.Rows.sortedHeap_old (Nat.ne_of_lt lt) (by rw [PyProof.Rows.size_push']; exact Nat.lt_succ_of_lt lt)]
      exact Heap.get?_push_of_some _ e
    refine wpAny_pure ⟨_, rfl, .ref s1.heap.objs.size, upd H s1.heap.objs.size (.lst (cs.map fun m => V.ref m.2.1)), I1.laid (t' := s1.toks) keep (Nat.le_refl _) ⟨hz2, out, ep2, hV, hep⟩, rfl, ?_⟩
    exact q _ _ (I1.hok.fresh (Nat.le_refl _)) (by rw [← hds]; exact hR) hz2
theorem cr_sortSet {X : Cx} (hc : X.calm = true) (hu : X.A.units + 64 < cLine) : CallR X (.builtin "sorted") (rSortSet X.K X.w) := by
  intro pins s σ H xs us Q I r ⟨c, a, L, ds, e, hF, ha, hl, hk, h1, h2, h4, h5, q⟩
  subst e
  obtain ⟨u, rfl, ru⟩ := vals1 r
  cases ru
  have okA : ObjOk X.prog X.w H s.heap a (SetO X.w a L) := I.hok a _ ha
  obtain ⟨⟨es, ep, t, ⟨o, ho, hex, hd⟩, rows, tab, nd, led, room, few⟩, _, _⟩ := okA
  have sz := rowsLen rows
  have fit : t.fits es.size = true := by
    have z := tab.sz
    rw [List.length_map] at z
    exact fitsOf (by omega) tab.dm (by omega)
  have hrows : es.toList.map (·.2) = L.map fun p => Value.ref p.1 := by
    rw [rows, List.map_map]
    rfl
  refine sort_any hu I (fun R E k => collect_set (A := X.A.in1) (I.ok.hd hc) ⟨o, ho, hex.1, hd⟩ fit (by unfold scanBound; omega) tab.ris led fun s1 vs k1 z1 g1 o1 pm => ?_) few hF hl hk h1 h2 h4 h5 q
  rw [hrows] at pm
  exact k s1 vs k1 g1 o1 pm
end Pv

set_option maxRecDepth 100000
/-! Pv.Set4: sorted(set(e)) follows the evaluator. -/
namespace Pv
open PySem PySem.Spec L2
/-! ### dedD -/
theorem dedD_sub : ∀ (ds acc : List D), ∀ x ∈ dedD acc ds, x ∈ acc ∨ x ∈ ds
  | [], acc, x, h => .inl h
  | d :: ds, acc, x, h => by
    rw [dedD] at h
    rcases dedD_sub ds _ x h with z | z
    · split at z
      · exact .inl z
      · rcases List.mem_append.mp z with z | z
        · exact .inl z
        · exact .inr (by simp only [List.mem_singleton] at z; simp [z])
    · exact .inr (by simp [z])
theorem dedD_acc : ∀ (ds acc : List D), ∀ x ∈ acc, x ∈ dedD acc ds
  | [], acc, x, h => h
  | d :: ds, acc, x, h => by
    rw [dedD]
    refine dedD_acc ds _ x ?_
    split
    · exact h
    · exact List.mem_append_left _ h
theorem dedD_all : ∀ (ds acc : List D), (∀ x ∈ acc ++ ds, ∀ y ∈ acc ++ ds, x.ali y = true) → ∀ x ∈ ds, x ∈ dedD acc ds
  | d :: ds, acc, ha, x, h => by
    rw [dedD]
    rcases List.mem_cons.mp h with rfl | h
    · split
      · rename_i e
        obtain ⟨y, hy, e⟩ := List.any_eq_true.mp e
        have : y = x := eq_of_eqv y x (ha y (by simp [hy]) x (by simp)) e
        subst this
        exact dedD_acc ds _ _ hy
      · exact dedD_acc ds _ _ (by simp)
    · refine dedD_all ds _ (fun a h1 b h2 => ha a ?_ b ?_) x h
      · split at h1
        · rcases List.mem_append.mp h1 with z | z <;> simp [z]
        · simp only [List.append_assoc, List.mem_append, List.mem_singleton] at h1
          rcases h1 with z | z | z <;> simp [z]
      · split at h2
        · rcases List.mem_append.mp h2 with z | z <;> simp [z]
        · simp only [List.append_assoc, List.mem_append, List.mem_singleton] at h2
          rcases h2 with z | z | z <;> simp [z]
theorem dedD_nodup : ∀ (ds acc : List D), (∀ x ∈ ds, x.pl = true) → acc.Nodup → (dedD acc ds).Nodup
  | [], acc, _, h => h
  | d :: ds, acc, hp, h => by
    rw [dedD]
    refine dedD_nodup ds _ (fun x hx => hp x (by simp [hx])) ?_
    split
    · exact h
    · rename_i e
      refine List.nodup_append.mpr ⟨h, by simp, fun a ha b hb => ?_⟩
      simp only [List.mem_singleton] at hb
      subst hb
      intro e2
      subst e2
      exact e (List.any_eq_true.mpr ⟨a, ha, eqv_refl a (hp a (by simp))⟩)
mutual
theorem keyD_some : ∀ d : D, d.hsh = true → (keyD d).isSome = true
  | .non, _ => rfl
  | .bl _, _ => rfl
  | .int _, _ => rfl
  | .str _, _ => rfl
  | .tup ds, h => by
    have := keyDs_some ds h
    rw [keyD]
    cases e : keyDs ds with
    | none => rw [e] at this; cases this
    | some ks => rfl
  | .lst _, h => by cases h
  | .dict _, h => by cases h
  | .ref _, h => by cases h
theorem keyDs_some : ∀ ds : List D, D.hshL ds = true → (keyDs ds).isSome = true
  | [], _ => rfl
  | d :: ds, h => by
    simp only [D.hshL, Bool.and_eq_true] at h
    have h1 := keyD_some d h.1
    have h2 := keyDs_some ds h.2
    rw [keyDs]
    cases e1 : keyD d with
    | none => rw [e1] at h1; cases h1
    | some k =>
      cases e2 : keyDs ds with
      | none => rw [e2] at h2; cases h2
      | some ks => rfl
end
structure SetOk (ds : List D) : Prop where
  ali : ∀ x ∈ ds, ∀ y ∈ ds, x.ali y = true
  few : ds.length < 64
  tup : ∀ d ∈ ds, ∃ ds', d = .tup ds'
  key : ∀ d ∈ ds, (keyD d).isSome = true ∧ d.dep ≤ 8
  pl : ∀ d ∈ ds, d.pl = true
theorem setOk_ok {ds : List D} (h : setOk ds = true) : SetOk ds := by
  unfold setOk at h
  simp only [Bool.and_eq_true, decide_eq_true_eq] at h
  obtain ⟨⟨h1, h2⟩, h3⟩ := h
  have z : ∀ d ∈ ds, ((d.isTup = true ∧ d.hsh = true) ∧ d.pl = true) ∧ d.dep ≤ 8 := fun d hd => by
    have := List.all_eq_true.mp h3 d hd
    simpa only [Bool.and_eq_true, decide_eq_true_eq] using this
  refine ⟨fun x hx y hy => ?_, h2, fun d hd => ?_, fun d hd => ⟨keyD_some d (z d hd).1.1.2, (z d hd).2⟩, fun d hd => (z d hd).1.2⟩
  · unfold aliAll at h1
    exact List.all_eq_true.mp (List.all_eq_true.mp h1 x hx) y hy
  · have := (z d hd).1.1.1
    cases d with
    | tup ds' => exact ⟨ds', rfl⟩
    | _ => cases this
/-- data for what a set has -/
theorem pickD {R : D → Addr × NK → Prop} {ds : List D} : ∀ L : List (Addr × NK), (∀ p ∈ L, ∃ d ∈ ds, R d p) → ∃ es : List D, es.length = L.length ∧ (∀ (i : Nat) d p, es[i]? = some d → L[i]? = some p → R d p) ∧ ∀ d ∈ es, d ∈ ds
  | [], _ => ⟨[], rfl, fun i d p e => by simp at e, fun d h => by cases h⟩
  | p :: L, h => by
    obtain ⟨es, e1, e2, e3⟩ := pickD L fun p hp => h p (by simp [hp])
    obtain ⟨d, hd, r⟩ := h p (by simp)
    refine ⟨d :: es, by simp [e1], fun i d' p' a1 a2 => ?_, fun x hx => ?_⟩
    · cases i with
      | zero =>
        simp only [List.getElem?_cons_zero, Option.some.injEq] at a1 a2
        subst a1 a2
        exact r
      | succ i =>
        rw [List.getElem?_cons_succ] at a1 a2
        exact e2 i d' p' a1 a2
    · rcases List.mem_cons.mp hx with rfl | hx
      · exact hd
      · exact e3 x hx
theorem pick_perm {R : D → Addr × NK → Prop} {ds es : List D} {L : List (Addr × NK)} (S : SetOk ds) (hl : es.length = L.length) (hk : ∀ (i : Nat) d p, es[i]? = some d → L[i]? = some p → R d p) (hR : ∀ d p, R d p → keyD d = some p.2) (hs : ∀ d ∈ es, d ∈ ds)
    (ha : ∀ d ∈ ds, ∃ p ∈ L, keyD d = some p.2) (nd : (L.map (·.2)).Nodup) : es.Perm (dedD [] ds) := by
  have em : es.map keyD = (L.map (·.2)).map some := by
    refine List.ext_getElem? fun i => ?_
    rw [List.getElem?_map, List.map_map, List.getElem?_map]
    cases e1 : es[i]? with
    | none =>
      have : L[i]? = none := by
        rw [List.getElem?_eq_none_iff] at e1 ⊢
        omega
      rw [this]; rfl
    | some d =>
      cases e2 : L[i]? with
      | none =>
        rw [List.getElem?_eq_none_iff] at e2
        have := (List.getElem?_eq_some_iff.mp e1).1
        omega
      | some p => simp only [Option.map_some, Function.comp, hR d p (hk i d p e1 e2)]
  have n1 : es.Nodup := by
    have : (es.map keyD).Nodup := by
      rw [em]
      exact List.Pairwise.map some (fun a b h e => h (Option.some.inj e)) nd
    exact List.Pairwise.of_map keyD (fun a b h e => h (by rw [e])) this
  refine (List.perm_ext_iff_of_nodup n1 (dedD_nodup ds [] S.pl (by simp))).mpr fun x => ⟨fun hx => dedD_all ds [] (by simpa using S.ali) x (hs x hx), fun hx => ?_⟩
  have hx : x ∈ ds := by
    rcases dedD_sub ds [] x hx with z | z
    · cases z
    · exact z
  obtain ⟨p, hp, e⟩ := ha x hx
  obtain ⟨i, d, a1, a2⟩ := getSame hl.symm hp
  have hd := List.mem_of_getElem? a1
  have : d = x := keyD_inj d x p.2 (S.ali d (hs d hd) x hx) (hR d p (hk i d p a1 a2)) e
  subst this
  exact hd
theorem depL_le {ds : List D} {n : Nat} (h : ∀ d ∈ ds, d.dep ≤ n) : D.depL ds ≤ n := by
  induction ds with
  | nil => exact Nat.zero_le _
  | cons d ds ih =>
    simp only [D.depL]
    exact Nat.max_le.mpr ⟨h d (by simp), ih fun d hd => h d (by simp [hd])⟩
theorem plL_all {ds : List D} (h : ∀ d ∈ ds, d.pl = true) : D.plL ds = true := by
  induction ds with
  | nil => rfl
  | cons d ds ih => simp only [D.plL, h d (by simp), ih fun d hd => h d (by simp [hd]), Bool.and_self]
theorem srtAll_perm {xs ys : List D} (h : xs.Perm ys) (hs : srtAll ys = true) : srtAll xs = true := by
  unfold srtAll at hs ⊢
  rw [Bool.or_eq_true, List.all_eq_true, List.all_eq_true] at hs ⊢
  rcases hs with z | z
  · exact .inl fun x hx => z x (h.mem_iff.mp hx)
  · exact .inr fun x hx => z x (h.mem_iff.mp hx)
theorem srt_some {ds es : List D} (h : srtD ds = some es) : srtAll ds = true ∧ es = ds.mergeSort dLe := by
  unfold srtD at h
  split at h
  · rename_i cond
    cases h
    simp only [Bool.and_eq_true, decide_eq_true_eq] at cond
    exact ⟨cond.1.1.1.2, rfl⟩
  · cases h
theorem sortSet_some {d z : D} (h : sortSetD [d] = some z) : ∃ ds, (d = .lst ds ∨ d = .tup ds) ∧ SetOk ds ∧ srtAll (dedD [] ds) = true ∧ z = .lst ((dedD [] ds).mergeSort dLe) := by
  unfold sortSetD at h
  split at h
  · rename_i ds hd
    cases hd
    split at h
    · rename_i ok
      obtain ⟨es', er, rfl⟩ := map_some h
      obtain ⟨e1, rfl⟩ := srt_some er
      exact ⟨ds, .inl rfl, setOk_ok ok, e1, rfl⟩
    · cases h
  · rename_i ds hd
    cases hd
    split at h
    · rename_i ok
      obtain ⟨es', er, rfl⟩ := map_some h
      obtain ⟨e1, rfl⟩ := srt_some er
      exact ⟨ds, .inr rfl, setOk_ok ok, e1, rfl⟩
    · cases h
  · cases h
theorem sortDict_some {d z : D} (h : sortDictD [d] = some z) : ∃ ds ks, d = .lst ds ∧ keysOf ds = some ks ∧ SetOk ks ∧ srtAll (dedD [] ks) = true ∧ z = .lst ((dedD [] ks).mergeSort dLe) := by
  unfold sortDictD at h
  split at h
  · rename_i ds hd
    cases hd
    cases e : keysOf ds with
    | none => rw [e] at h; cases h
    | some ks =>
      rw [e] at h
      have h : (if setOk ks then (srtD (dedD [] ks)).map D.lst else none) = some z := h
      split at h
      · rename_i ok
        obtain ⟨es', er, rfl⟩ := map_some h
        obtain ⟨e1, rfl⟩ := srt_some er
        exact ⟨ds, ks, rfl, e, setOk_ok ok, e1, rfl⟩
      · cases h
  · cases h
section
variable {X : Cx} {W : Ws} {pos p2 pos2 : Pos} {e : Expr}
/-- sorted(set(e)) -/
theorem rl_sortSet (hc : X.calm = true) (hu : X.A.units + 64 < cLine) {f : M P} {g : M (List P)} {x y : Str} {p q : Pos} (hgf : ∀ s, g s = (f s).bind fun p s => .ok [p] s) (hx : x = "sorted") (hy : y = "set") (hg : Gl X "sorted") (hm : X.mg "sorted" = none) (hg2 : Gl X "set") (hm2 : X.mg "set" = none)
    (ha : PE X e (tP X.K W f)) (hs : starEach [e] X.env = [(false, eval e X.env)]) :
    PE X (.Call (.Name x p) [.Call (.Name y q) [e] [] pos2] [] pos) (tF X.K W (g >>= fun ps => getPs ps >>= fun ds => ofO (biD .sortSet ds))) := by
  subst hx hy
  have h1 : PE X (.Call (.Name "set" q) [e] [] pos2) _ := pe_callTy (cr_set hc hu) hg2 hm2 rfl (pa_cons ha pa_nil (by rw [hs]; rfl)) (by decide) (by decide) (by rw [hs]; rfl) (by rfl)
  refine PE.imp (pe_callB (cr_sortSet hc hu) hg hm rfl (pa_cons h1 pa_nil (by rfl)) (by decide) (by decide) (by rfl) (by rfl)) fun σ H Q ⟨st, c, A, h⟩ => ?_
  have h : SatF X.K W c σ ((g st).bind fun ps s => (getPs ps s).bind fun ds => ofO (biD .sortSet ds)) Q := h
  rw [hgf, R.bind_assoc] at h
  refine tP_in A h fun v H1 st1 c1 p l1 A1 r1 h1 => ?_
  have e1 : getPs [p] st1 = (getP p st1).bind fun d s => .ok [d] s := rfl
  have h2 : SatF X.K W c1 σ ((getPs [p] st1).bind fun ds => ofO (biD .sortSet ds)) Q := h1
  rw [e1, R.bind_assoc] at h2
  obtain ⟨d, ed, h3⟩ := h2.getP
  obtain ⟨z, ez, h4⟩ := SatF.ofO (show SatF X.K W c1 σ (ofO (biD .sortSet [d]) st1) Q from h3)
  obtain ⟨ds, hd, S, c2, rfl⟩ := sortSet_some ez
  refine ⟨c1, ds, v, rfl, A1.fH, ?_, S.few, S.tup, S.key, fun a L hn hL hD nd => ?_⟩
  · have vw := r1.view A1 ed
    rcases hd with rfl | rfl
    · exact .inl vw
    · exact .inr vw
  obtain ⟨es, e1, e2, e3⟩ := pickD (R := fun d p => Rp X.K c1 d (.ref p.1) ∧ keyD d = some p.2) L hL
  have pm := pick_perm S e1 e2 (fun d p r => r.2) e3 hD nd
  have A2 : Abs X.K c1 st1 σ (upd H1 a (SetO X.w a L)) := A1.new hn
  refine ⟨c1, a, L, es, rfl, A2.fH, upd_same, e1, e2, ?_, srtAll_perm pm c2, plL_all fun d hd => S.pl d (e3 d hd), depL_le fun d hd => (S.key d (e3 d hd)).2, fun p ys hp hr hz => ?_⟩
  · unfold aliAll
    rw [List.all_eq_true]
    intro x hx
    rw [List.all_eq_true]
    exact fun y hy => S.ali x (e3 x hx) y (e3 y hy)
  · have hsrt : es.mergeSort dLe = (dedD [] ds).mergeSort dLe := sort_perm pm (fun x hx y hy => S.ali x (e3 x hx) y (e3 y hy)) fun x hx => S.pl x (e3 x hx)
    rw [hsrt] at hr
    exact h4.now A2 p ys hp hr hz
end
end Pv

set_option maxRecDepth 100000
/-! Pv.Set5: sorted(dict(e)) follows the evaluator. -/
namespace Pv
open PySem PySem.Spec L2
structure Keys0 (h : Heap) (a : Addr) (L : List (Addr × NK)) : Prop where
  ex : ∃ (o : Obj) (es : Array DictEntry) (ep : Nat), h.get? a = some o ∧ o.ExactDict ∧ o.data = .dict es ep ∧ es.toList.map (fun e => e.key) = L.map (fun p => Value.ref p.1) ∧ L.length < 64 ∧ (a == sysModules) = false
def KeysO (a : Addr) (L : List (Addr × NK)) : HO := .ext fun h => Keys0 h a L
theorem keysO_ok {P : Program} {w : World} {H : Hp} {h : Heap} {a : Addr} {L : List (Addr × NK)} (R : Keys0 h a L) : ObjOk P w H h a (KeysO a L) := by
  obtain ⟨o, es, ep, ho, q⟩ := R.ex
  exact ⟨R, ⟨o, ho⟩, fun h1 h2 p k => by
    obtain ⟨o', es', ep', ho', q'⟩ := Keys0.ex p
    exact ⟨o', es', ep', k o' ho', q'⟩⟩
theorem storedH_mem {K : Type} [DecidableEq K] {xs : List (K × Addr × Value)} {k : K} {a : Addr} {v : Value} {x : K × Addr × Value} (h : x ∈ storedH xs k a v) : (∃ y ∈ xs, y.1 = x.1 ∧ y.2.1 = x.2.1) ∨ (x.1 = k ∧ x.2.1 = a) := by
  unfold storedH at h
  split at h
  · obtain ⟨y, hy, rfl⟩ := List.mem_map.mp h
    refine .inl ⟨y, hy, ?_⟩
    unfold putAt
    split <;> exact ⟨rfl, rfl⟩
  · rcases List.mem_append.mp h with h | h
    · exact .inl ⟨x, h, rfl, rfl⟩
    · rw [List.mem_singleton.mp h]
      exact .inr ⟨rfl, rfl⟩
theorem storedH_keep {K : Type} [DecidableEq K] {xs : List (K × Addr × Value)} {k : K} {a : Addr} {v : Value} {y : K × Addr × Value} (h : y ∈ xs) : ∃ x ∈ storedH xs k a v, x.1 = y.1 := by
  unfold storedH
  split
  · refine ⟨putAt k v y, List.mem_map_of_mem h, ?_⟩
    unfold putAt
    split <;> rfl
  · exact ⟨y, List.mem_append_left _ h, rfl⟩
theorem storedH_key {K : Type} [DecidableEq K] {xs : List (K × Addr × Value)} {k : K} {a : Addr} {v : Value} : ∃ x ∈ storedH xs k a v, x.1 = k := by
  unfold storedH
  split
  · rename_i e
    cases f : xs.find? fun x => decide (x.1 = k) with
    | none => simp [atKey, f] at e
    | some y =>
      have e1 := List.find?_some f
      have e2 := List.mem_of_find?_eq_some f
      simp only [decide_eq_true_eq] at e1
      refine ⟨putAt k v y, List.mem_map_of_mem e2, ?_⟩
      unfold putAt
      split <;> exact e1
  · exact ⟨(k, a, v), by simp, rfl⟩
theorem storedAllH_mem {K : Type} [DecidableEq K] : ∀ (ps xs : List (K × Addr × Value)) (x : K × Addr × Value), x ∈ storedAllH xs ps → (∃ y ∈ xs, y.1 = x.1 ∧ y.2.1 = x.2.1) ∨ ∃ y ∈ ps, y.1 = x.1 ∧ y.2.1 = x.2.1
  | [], xs, x, h => .inl ⟨x, h, rfl, rfl⟩
  | p :: ps, xs, x, h => by
    have h : x ∈ storedAllH (storedH xs p.1 p.2.1 p.2.2) ps := h
    rcases storedAllH_mem ps _ x h with ⟨y, hy, e1, e2⟩ | ⟨y, hy, e⟩
    · rcases storedH_mem hy with ⟨z, hz, f1, f2⟩ | ⟨f1, f2⟩
      · exact .inl ⟨z, hz, f1.trans e1, f2.trans e2⟩
      · exact .inr ⟨p, by simp, f1.symm.trans e1, f2.symm.trans e2⟩
    · exact .inr ⟨y, by simp [hy], e⟩
theorem storedAllH_has {K : Type} [DecidableEq K] : ∀ (ps xs : List (K × Addr × Value)) (y : K × Addr × Value), y ∈ xs ∨ y ∈ ps → ∃ x ∈ storedAllH xs ps, x.1 = y.1
  | [], xs, y, h => by
    rcases h with h | h
    · exact ⟨y, h, rfl⟩
    · cases h
  | p :: ps, xs, y, h => by
    show ∃ x ∈ storedAllH (storedH xs p.1 p.2.1 p.2.2) ps, x.1 = y.1
    have go : (∃ z ∈ storedH xs p.1 p.2.1 p.2.2, z.1 = y.1) → ∃ x ∈ storedAllH (storedH xs p.1 p.2.1 p.2.2) ps, x.1 = y.1 := fun ⟨z, hz, e⟩ => by
      obtain ⟨x, hx, e2⟩ := storedAllH_has ps _ z (.inl hz)
      exact ⟨x, hx, e2.trans e⟩
    rcases h with h | h
    · exact go (storedH_keep h)
    · rcases List.mem_cons.mp h with rfl | h
      · exact go storedH_key
      · exact storedAllH_has ps _ y (.inr h)
/-- a row: the pair's place, the key's, the value -/
abbrev PRow := Addr × NK × Addr × Value
section
variable {X : Cx} {pins : List (Addr × Obj)} {σ : St} {H : Hp} {s : Shared} {c : Gh}
theorem pairRows (I : L2.Inv X pins σ H s) (hF : ∀ a o, c.F a = some o → H a = some o) : ∀ {ds ks : List D} {xs : List V} {us : List Value}, keysOf ds = some ks → RpL X.K c ds xs → Vals xs us → (∀ d ∈ ks, ∃ ds', d = .tup ds') → (∀ d ∈ ks, (keyD d).isSome = true) →
    ∃ rows : List PRow, us = rows.map (fun p => Value.ref p.1) ∧ rows.length = ks.length ∧ ∀ (i : Nat) d p, ks[i]? = some d → rows[i]? = some p → Rp X.K c d (.ref p.2.2.1) ∧ keyD d = some p.2.1 ∧ s.heap.IsTuple p.1 #[.ref p.2.2.1, p.2.2.2]
  | [], ks, xs, us, e, r, v, _, _ => by
    cases e
    simp only [RpL] at r
    subst r; cases v
    exact ⟨[], rfl, rfl, fun i d p e => by simp at e⟩
  | d :: ds, ks, xs, us, e, r, v, ht, hk => by
    simp only [RpL] at r
    obtain ⟨y, ys, rfl, r1, r2⟩ := r
    cases v with
    | cons v1 v2 =>
      unfold keysOf at e
      split at e
      · cases ‹_ :: _ = []›
      · rename_i k x ds' eq
        cases eq
        cases e1 : keysOf ds with
        | none => rw [e1] at e; cases e
        | some ks' =>
          rw [e1] at e
          cases e
          obtain ⟨rows, f1, f2, f3⟩ := pairRows I hF e1 r2 v2 (fun d hd => ht d (by simp [hd])) (fun d hd => hk d (by simp [hd]))
          obtain ⟨kds, rfl⟩ := ht k (by simp)
          have hs := hk (.tup kds) (by simp)
          cases ek : keyD (.tup kds) with
          | none => rw [ek] at hs; cases hs
          | some n =>
            simp only [Rp] at r1
            obtain ⟨a, zs, rfl, hq, rl⟩ := r1
            cases v1
            simp only [RpL] at rl
            obtain ⟨y1, t1, rfl, q1, y2, t2, rfl, q2, rfl⟩ := rl
            obtain ⟨its, rv, pl, hz⟩ := I.tuple (sqT_mono hF hq)
            have q1' := q1
            simp only [Rp] at q1'
            obtain ⟨a2, zs2, rfl, _⟩ := q1'
            cases rv with
            | cons w1 w2 =>
              cases w2 with
              | cons w2 w3 =>
                cases w3
                cases w1
                rename_i u2
                refine ⟨(a, n, a2, u2) :: rows, by rw [f1]; rfl, by simp [f2], fun i d p g1 g2 => ?_⟩
                cases i with
                | zero =>
                  simp only [List.getElem?_cons_zero, Option.some.injEq] at g1 g2
                  subst g1 g2
                  obtain ⟨o, g1, g2, n', g3⟩ := pl
                  exact ⟨by simpa only [Rp] using q1, ek, o, g1, g2, n', g3⟩
                | succ i =>
                  rw [List.getElem?_cons_succ] at g1 g2
                  exact f3 i d p g1 g2
      · cases e
end
/-- dict(xs) -/
def rDictOf (K : PySem.W.Frag) : List V → Hp → VK → Prop := fun xs H Q => ∃ (c : Gh) (ds ks : List D) (x : V), xs = [x] ∧ (∀ a o, c.F a = some o → H a = some o) ∧ View K c H (.lst ds) x ∧ keysOf ds = some ks ∧
  ks.length < 64 ∧ (∀ d ∈ ks, ∃ ds', d = .tup ds') ∧ (∀ d ∈ ks, (keyD d).isSome = true ∧ d.dep ≤ 8) ∧
  ∀ a L, H a = none → (∀ p ∈ L, ∃ d ∈ ks, Rp K c d (.ref p.1) ∧ keyD d = some p.2) → (∀ d ∈ ks, ∃ p ∈ L, keyD d = some p.2) → (L.map (·.2)).Nodup → Q (.ref a) (upd H a (KeysO a L))
theorem cr_dict {X : Cx} (hc : X.calm = true) (hu : X.A.units + 64 < cLine) : CallR X (.type "dict") (rDictOf X.K) := by
  intro pins s σ H xs us Q I r ⟨c, ds, ks, x, e, hF, hv, hks, few, tp, kk, q⟩
  subst e
  obtain ⟨u, rfl, ru⟩ := vals1 r
  obtain ⟨l, vs, rfl, hq, rl⟩ := hv.lst hF
  cases ru
  obtain ⟨its, rv, pl, hz⟩ := I.list hq
  obtain ⟨rows, e1, e2, e3⟩ := pairRows I hF hks rl rv tp (fun d hd => (kk d hd).1)
  subst e1
  have kat : ∀ p ∈ rows, (nestedKind X.prog X.w).is s.heap p.2.1 p.2.2.1 := fun p hp => by
    obtain ⟨i, d, a1, a2⟩ := getSame e2 hp
    obtain ⟨r1, r2, _⟩ := e3 i d p a1 a2
    exact ⟨key_is I hF d _ _ _ r1 rfl r2, by rw [keyD_depth d _ r2]; exact (kk d (List.mem_of_getElem? a1)).2⟩
  have nst : (nestedKind X.prog X.w).Stays := nestedKind_stays
  let ps : List (NK × Addr × Value) := rows.map fun p => (p.2.1, p.2.2.1, p.2.2.2)
  let qs : List (Value × Value) := rows.map fun p => (Value.ref p.2.2.1, p.2.2.2)
  let Ts : Nat → Addr := fun j => ((rows[j]?).map (·.1)).getD 0
  have pit : PairItems s.heap (rows.map fun p => Value.ref p.1).toArray Ts qs := ⟨by simp [qs], fun j k v hj => by
    simp only [qs, List.getElem?_map] at hj
    cases e : rows[j]? with
    | none => rw [e] at hj; cases hj
    | some p =>
      rw [e] at hj
      cases hj
      have hT : Ts j = p.1 := by simp only [Ts, e, Option.map_some, Option.getD_some]
      obtain ⟨i, d, a1, a2⟩ := getSame e2 (List.mem_of_getElem? e)
      rw [hT]
      exact ⟨by simp [e], .inl (e3 i d p a1 a2).2.2⟩⟩
  refine call_dict_pairsH (knd := nestedKind X.prog X.w) (ps := ps) (PairArg.list l (rows.map fun p => Value.ref p.1).toArray Ts qs) (I.ok.hd hc) ?_ ⟨?_, pit⟩ ⟨by simp [ps, qs], ?_⟩ ?_ ?_ fun h' tk hd hk => ?_
  · show X.A.in1.in1.units + 8 < cLine
    have z1 : X.A.in1.in1.units = X.A.units + 2 := by simp
    omega
  · obtain ⟨o, n, g1, g2, g3, g4⟩ := pl
    exact ⟨o, n, g1, g2, g3, g4⟩
  · intro i key v hi
    have hi : qs[i]? = some (key, v) := hi
    simp only [qs, List.getElem?_map] at hi
    cases e : rows[i]? with
    | none => rw [e] at hi; cases hi
    | some p =>
      rw [e] at hi
      cases hi
      exact ⟨p.2.1, p.2.2.1, by simp [ps, e], rfl⟩
  · intro h' hk x hx
    obtain ⟨p, hp, rfl⟩ := List.mem_map.mp hx
    exact nst.stays (fun b o vs n e _ => hk b o (Nat.ne_of_lt (Heap.lt_size e)) (fun z => nomatch z) e) (kat p hp)
  · simp only [qs, List.length_map]
    exact Nat.le_trans (by omega : rows.length ≤ 64) (by decide)
  · obtain ⟨o, es, ep, g1, g2, g3, g4, g5, g6⟩ := hd
    let L : List (Addr × NK) := (storedAllH [] ps).map fun x => (x.2.1, x.1)
    have hL : L.length < 64 := by
      have z := storedAllH_length ps []
      simp only [ps, List.length_map, List.length_nil, Nat.zero_add] at z
      simp only [L, List.length_map, ps]
      omega
    have K0 : Keys0 h' s.heap.objs.size L := ⟨o, es, ep, g1, g2, g3, by rw [g4]; simp [L, List.map_map, Function.comp_def, entryOfKey], hL, beq_eq_false_iff_ne.mpr (Nat.ne_of_gt I.big)⟩
    refine ⟨.ref _, upd H s.heap.objs.size (KeysO s.heap.objs.size L), I.laid (t' := tk) (fun b u e => hk b u (fun z => nomatch z) e) (Nat.le_refl _) (keysO_ok K0), rfl, q _ L (I.hok.fresh (Nat.le_refl _)) (fun p hp => ?_) (fun d hd => ?_) ?_⟩
    · obtain ⟨x, hx, rfl⟩ := List.mem_map.mp hp
      rcases storedAllH_mem ps [] x hx with ⟨y, hy, _⟩ | ⟨y, hy, f1, f2⟩
      · cases hy
      · obtain ⟨p, hp, rfl⟩ := List.mem_map.mp hy
        obtain ⟨i, d, a1, a2⟩ := getSame e2 hp
        obtain ⟨b1, b2, _⟩ := e3 i d p a1 a2
        refine ⟨d, List.mem_of_getElem? a1, ?_⟩
        dsimp only at f1 f2 ⊢
        rw [← f1, ← f2]
        exact ⟨b1, b2⟩
    · obtain ⟨i, p, a1, a2⟩ := getSame e2.symm hd
      obtain ⟨x, hx, e⟩ := storedAllH_has ps [] (p.2.1, p.2.2.1, p.2.2.2) (.inr (List.mem_map_of_mem (List.mem_of_getElem? a1)))
      refine ⟨(x.2.1, x.1), List.mem_map_of_mem hx, ?_⟩
      rw [(e3 i d p a2 a1).2.1]
      exact congrArg some e.symm
    · have : L.map (·.2) = (storedAllH [] ps).map (·.1) := by simp [L, List.map_map, Function.comp_def]
      rw [this]
      exact g6
/-- sorted(d), d's keys tuples -/
def rSortKeys (K : PySem.W.Frag) : List V → Hp → VK → Prop := fun xs H Q => ∃ (c : Gh) (a : Addr) (L : List (Addr × NK)) (ds : List D), xs = [.ref a] ∧ (∀ a o, c.F a = some o → H a = some o) ∧ H a = some (KeysO a L) ∧ ds.length = L.length ∧
  (∀ (i : Nat) d p, ds[i]? = some d → L[i]? = some p → Rp K c d (.ref p.1) ∧ keyD d = some p.2) ∧ aliAll ds = true ∧ srtAll ds = true ∧ D.plL ds = true ∧ D.depL ds ≤ 8 ∧
  ∀ p ys, H p = none → RpL K c (ds.mergeSort dLe) ys → ys.length ≤ sizeLine → Q (.ref p) (upd H p (.lst ys))
theorem cr_sortKeys {X : Cx} (hc : X.calm = true) (hu : X.A.units + 64 < cLine) : CallR X (.builtin "sorted") (rSortKeys X.K) := by
  intro pins s σ H xs us Q I r ⟨c, a, L, ds, e, hF, ha, hl, hk, h1, h2, h4, h5, q⟩
  subst e
  obtain ⟨u, rfl, ru⟩ := vals1 r
  cases ru
  have okA : ObjOk X.prog X.w H s.heap a (KeysO a L) := I.hok a _ ha
  obtain ⟨⟨o, es, ep, ho, hex, hd, hkeys, few, lo⟩, _, _⟩ := okA
  have sz : es.size = L.length := by
    have := congrArg List.length hkeys
    simpa using this
  refine sort_any hu I (fun R E k => PySem.W.kdu_collect (A := X.A.in1) (kdl_raw (o := o) (es := es) (ep := ep) lo hex hd) (I.ok.hd hc) ho (by rw [sz]; exact Nat.le_trans (by omega : L.length ≤ 64) (by decide)) fun h' tk acc hk hacc => k { s with heap := h', toks := tk } _ hk rfl rfl ?_) few hF hl hk h1 h2 h4 h5 q
  have : acc.toList = es.toList.map fun e => e.key := by
    refine List.ext_getElem? fun i => ?_
    rw [List.getElem?_map]
    by_cases hi : i < es.size
    · have hi2 : i < acc.size := by rw [hacc.1]; exact hi
      obtain ⟨en, e1, e2⟩ := hacc.2 i acc[i] (Array.getElem?_eq_getElem hi2)
      have e3 : acc.toList[i]? = some acc[i] := by rw [Array.getElem?_toList]; exact Array.getElem?_eq_getElem hi2
      have e4 : es.toList[i]? = some en := by rw [Array.getElem?_toList]; exact e1
      rw [e3, e4, e2]; rfl
    · have e3 : acc.toList[i]? = none := by rw [List.getElem?_eq_none_iff, Array.length_toList, hacc.1]; omega
      have e4 : es.toList[i]? = none := by rw [List.getElem?_eq_none_iff, Array.length_toList]; omega
      rw [e3, e4]; rfl
  rw [this, hkeys]
section
variable {X : Cx} {W : Ws} {pos p2 pos2 : Pos} {e : Expr}
/-- sorted(dict(e)) -/
theorem rl_sortDict (hc : X.calm = true) (hu : X.A.units + 64 < cLine) {f : M P} {g : M (List P)} {x y : Str} {p q : Pos} (hgf : ∀ s, g s = (f s).bind fun p s => .ok [p] s) (hx : x = "sorted") (hy : y = "dict") (hg : Gl X "sorted") (hm : X.mg "sorted" = none) (hg2 : Gl X "dict") (hm2 : X.mg "dict" = none)
    (ha : PE X e (tP X.K W f)) (hs : starEach [e] X.env = [(false, eval e X.env)]) :
    PE X (.Call (.Name x p) [.Call (.Name y q) [e] [] pos2] [] pos) (tF X.K W (g >>= fun ps => getPs ps >>= fun ds => ofO (biD .sortDict ds))) := by
  subst hx hy
  have h1 : PE X (.Call (.Name "dict" q) [e] [] pos2) _ := pe_callTy (cr_dict hc hu) hg2 hm2 rfl (pa_cons ha pa_nil (by rw [hs]; rfl)) (by decide) (by decide) (by rw [hs]; rfl) (by rfl)
  refine PE.imp (pe_callB (cr_sortKeys hc hu) hg hm rfl (pa_cons h1 pa_nil (by rfl)) (by decide) (by decide) (by rfl) (by rfl)) fun σ H Q ⟨st, c, A, h⟩ => ?_
  have h : SatF X.K W c σ ((g st).bind fun ps s => (getPs ps s).bind fun ds => ofO (biD .sortDict ds)) Q := h
  rw [hgf, R.bind_assoc] at h
  refine tP_in A h fun v H1 st1 c1 p l1 A1 r1 h1 => ?_
  have e1 : getPs [p] st1 = (getP p st1).bind fun d s => .ok [d] s := rfl
  have h2 : SatF X.K W c1 σ ((getPs [p] st1).bind fun ds => ofO (biD .sortDict ds)) Q := h1
  rw [e1, R.bind_assoc] at h2
  obtain ⟨d, ed, h3⟩ := h2.getP
  obtain ⟨z, ez, h4⟩ := SatF.ofO (show SatF X.K W c1 σ (ofO (biD .sortDict [d]) st1) Q from h3)
  obtain ⟨ds, ks, rfl, hks, S, c2, rfl⟩ := sortDict_some ez
  refine ⟨c1, ds, ks, v, rfl, A1.fH, r1.view A1 ed, hks, S.few, S.tup, S.key, fun a L hn hL hD nd => ?_⟩
  obtain ⟨es, e1, e2, e3⟩ := pickD (R := fun d p => Rp X.K c1 d (.ref p.1) ∧ keyD d = some p.2) L hL
  have pm := pick_perm S e1 e2 (fun d p r => r.2) e3 hD nd
  have A2 : Abs X.K c1 st1 σ (upd H1 a (KeysO a L)) := A1.new hn
  refine ⟨c1, a, L, es, rfl, A2.fH, upd_same, e1, e2, ?_, srtAll_perm pm c2, plL_all fun d hd => S.pl d (e3 d hd), depL_le fun d hd => (S.key d (e3 d hd)).2, fun p ys hp hr hz => ?_⟩
  · unfold aliAll
    rw [List.all_eq_true]
    intro x hx
    rw [List.all_eq_true]
    exact fun y hy => S.ali x (e3 x hx) y (e3 y hy)
  · have hsrt : es.mergeSort dLe = (dedD [] ks).mergeSort dLe := sort_perm pm (fun x hx y hy => S.ali x (e3 x hx) y (e3 y hy)) fun x hx => S.pl x (e3 x hx)
    rw [hsrt] at hr
    exact h4.now A2 p ys hp hr hz
end
end Pv

set_option maxRecDepth 100000
/-! Pv.Get: {5: 6, ..}.get(e, f). -/
namespace Pv
open PySem PySem.Spec L2
def dKvs (ks : List (Int × Int)) : List (Key × V) := ks.map fun p => (Sum.inl p.1, V.int p.2)
def dTrs (ks : List (Int × Int)) : List (TE × TE) := ks.map fun p => (tC (.int p.1), tC (.int p.2))
def keysChk : List (Int × Int) → List (Option Expr) → List Expr → Bool
  | [], [], [] => true
  | (a, b) :: ks, some (.Constant (.int i) _ _) :: kk, .Constant (.int j) _ _ :: vs => a == i && b == j && keysChk ks kk vs
  | _, _, _ => false
theorem keysChk_pps {X : Cx} {pos : Pos} : ∀ {ks : List (Int × Int)} {kk : List (Option Expr)} {vs : List Expr}, keysChk ks kk vs = true → PPs X pos kk vs (dTrs ks) ∧ kk.all (·.isSome) = true ∧ kk.length = vs.length ∧ kk.length = ks.length
  | [], [], [], _ => ⟨pps_nil, rfl, rfl, rfl⟩
  | (a, b) :: ks, some (.Constant (.int i) k1 p1) :: kk, .Constant (.int j) k2 p2 :: vs, h => by
    simp only [keysChk, Bool.and_eq_true, beq_iff_eq] at h
    obtain ⟨⟨rfl, rfl⟩, h⟩ := h
    obtain ⟨h1, h2, h3, h4⟩ := keysChk_pps (X := X) (pos := pos) h
    exact ⟨pps_cons pe_int pe_int h1, by simp [h2], by simp [h3], by simp [h4]⟩
theorem tPairs_con : ∀ (ks : List (Int × Int)) {σ : St} {H : Hp} {Q : List (V × V) → Hp → Prop}, Q ((dKvs ks).map fun kv => (kV kv.1, kv.2)) H → tPairs (dTrs ks) σ H Q
  | [], _, _, _, h => h
  | (a, b) :: ks, σ, H, Q, h => tPairs_con ks (Q := fun ps H3 => Q ((V.int a, V.int b) :: ps) H3) h
theorem valV_tab : ∀ (ks : List (Int × Int)) (acc : List (Key × V)) (k : Int) (o : Option Int), valV acc (Sum.inl k) = o.map V.int → valV (mergeK acc (dKvs ks)) (Sum.inl k) = (tabAt ks k o).map V.int
  | [], acc, k, o, h => h
  | (a, b) :: ks, acc, k, o, h => by
    refine valV_tab ks (putK acc (Sum.inl a) (V.int b)) k (if k = a then some b else o) ?_
    rw [valV_put]
    by_cases e : k = a
    · subst e
      rw [if_pos rfl, if_pos rfl]; rfl
    · rw [if_neg (fun z => e (Sum.inl.inj z)), if_neg e, h]
section
variable {X : Cx} {W : Ws} {pos dpos apos : Pos} {e f : Expr}
theorem rl_getOr (hu : X.A.units + 64 < cLine) {ks : List (Int × Int)} {kk : List (Option Expr)} {vs : List Expr} {f1 f2 : M P} {g : M (List P)} (hgf : ∀ s, g s = (f1 s).bind fun p1 s => (f2 s).bind fun p2 s => .ok [p1, p2] s) (hk : keysChk ks kk vs = true) (h0 : ks ≠ []) (h15 : ks.length ≤ 15)
    (he : PE X e (tP X.K W f1)) (hf : PE X f (tP X.K W f2)) (m : M2 X (.Dict kk vs dpos) "get" apos e f pos) :
    PE X (.Call (.Attribute (.Dict kk vs dpos) "get" apos) [e, f] [] pos) (tF X.K W (g >>= fun ps => getPs ps >>= fun ds => ofO (biD (.getOr ks) ds))) := by
  obtain ⟨hp, ha, hl, hl2⟩ := keysChk_pps (X := X) (pos := dpos) hk
  have h0' : kk ≠ [] := by
    intro z
    subst z
    exact h0 (List.eq_nil_of_length_eq_zero hl2.symm)
  refine PE.imp (pe_dget2 (by omega) (pe_disp hp ha hl h0' (by omega)) he hf m) fun σ H Q ⟨st, c, A, h⟩ => ?_
  have h : SatF X.K W c σ ((g st).bind fun ps s => (getPs ps s).bind fun ds => ofO (biD (.getOr ks) ds)) Q := h
  rw [hgf, R.bind_assoc] at h
  intro p hp
  refine tPairs_con ks ⟨upd_same, dKvs ks, rfl, by simp only [dKvs, List.length_map]; exact h15, ?_⟩
  rw [upd_upd]
  let o : HO := .dK (mergeK [] (dKvs ks))
  have A0 : Abs X.K (c.add p o) st σ (upd H p o) := A.newF hp
  refine ⟨p, rfl, .inl ⟨_, .inl upd_same⟩, ?_⟩
  refine tP_in A0 (h.mono (A.newLe hp)) fun v H1 st1 c1 p1 l1 A1 r1 h1 => ?_
  have h1 : SatF X.K W c1 σ (((f2 st1).bind fun p2 s => (.ok [p1, p2] s : R (List P))).bind fun ps s => (getPs ps s).bind fun ds => ofO (biD (.getOr ks) ds)) Q := h1
  rw [R.bind_assoc] at h1
  refine tP_in A1 h1 fun v2 H2 st2 c2 p2 l2 A2 r2 h2 => ?_
  have h2 : SatF X.K W c2 σ ((getPs [p1, p2] st2).bind fun ds => ofO (biD (.getOr ks) ds)) Q := h2
  cases eg : getPs [p1, p2] st2 with
  | no => rw [eg] at h2; exact h2.elim
  | ex x s => exact (getPs_no_ex eg).elim
  | ok ds s2 =>
    obtain ⟨rfl, hv⟩ := getPs_ok (K := X.K) (c := c2) (σ := σ) (H := H2) eg
    rw [eg] at h2
    have hv := hv (vs := [v, v2]) ⟨v, [v2], rfl, r1.mono l2, v2, [], rfl, r2, rfl⟩ A2
    obtain ⟨z, ez, h4⟩ := SatF.ofO (show SatF X.K W c2 σ (ofO (biD (.getOr ks) ds) s2) Q from h2)
    obtain ⟨k, d, rfl, rfl⟩ : ∃ k d, ds = [.int k, .int d] ∧ z = .int ((tabAt ks k none).getD d) := by
      have ez : getOrD ks ds = some z := ez
      unfold getOrD at ez
      split at ez
      · exact ⟨_, _, rfl, (Option.some.inj ez).symm⟩
      · cases ez
    obtain ⟨a, b, e1, q1, q2⟩ := hv.two
    cases e1
    cases q1.int
    cases q2.int
    have hF : H2 p = some o := A2.fH p o (l2.F p o (l1.F p o add_at))
    refine ⟨_, DGet.k (k := Sum.inl k) hF, ?_⟩
    rw [valV_tab ks [] k none rfl]
    have q := post_int (h4.now A2)
    cases et : tabAt ks k none with
    | none => rw [et] at q; exact q
    | some y => rw [et] at q; exact q
end
end Pv

set_option maxRecDepth 100000
/-! Pv.Chk: is this the form of that text? and what follows from it. -/
namespace Pv
open PySem PySem.Spec L2 C8
/-! ### looks at expressions -/
def noStar : Expr → Bool
  | .Starred _ _ => false
  | _ => true
def noSet : Expr → Bool
  | .Set _ _ _ => false
  | _ => true
def noSlice : Expr → Bool
  | .Slice _ _ _ _ => false
  | _ => true
def noBlk : Expr → Bool
  | .ListComp _ _ _ _ => false
  | .SetComp _ _ _ _ => false
  | .DictComp _ _ _ _ _ => false
  | _ => true
def noCall : Expr → Bool
  | .Call _ _ _ _ => false
  | _ => true
def isTup : Expr → Bool
  | .Tuple _ _ _ => true
  | _ => false
section
variable {e : Expr} {es : List Expr} {env : Env}
theorem star_cons (h : noStar e = true) : starEach (e :: es) env = (false, eval e env) :: starEach es env := by
  cases e with
  | Starred a b => cases h
  | _ => rfl
theorem star_one (h : noStar e = true) : starEach [e] env = [(false, eval e env)] := by rw [star_cons h]; rfl
theorem star_any (pos : Pos) : ∀ {es : List Expr}, es.all noStar = true → (backTo pos (starEach es env)).any (·.1) = false
  | [], _ => rfl
  | e :: es, h => by
    rw [List.all_cons, Bool.and_eq_true] at h
    rw [star_cons h.1]
    show (false || (backTo pos (starEach es env)).any (·.1)) = false
    rw [star_any pos h.2]
    rfl
theorem assign_cons {ts : List Expr} {t : Expr} (h : noStar t = true) : assignEach (t :: ts) env = (false, assign t env) :: assignEach ts env := by
  cases t with
  | Starred a b => cases h
  | _ => rfl
theorem assign_len : ∀ {ts : List Expr}, ts.all noStar = true → (assignEach ts env).length = ts.length ∧ (assignEach ts env).findIdx? (·.1) = none
  | [], _ => ⟨rfl, rfl⟩
  | t :: ts, h => by
    rw [List.all_cons, Bool.and_eq_true] at h
    obtain ⟨h1, h2⟩ := assign_len (ts := ts) h.2
    rw [assign_cons h.1]
    refine ⟨by rw [List.length_cons, List.length_cons, h1], ?_⟩
    rw [List.findIdx?_cons, h2]
    rfl
theorem plain_ix (h : noSlice e = true) : PlainIx e := by
  intro o i
  cases e with
  | Slice a b c d => cases h
  | _ => rfl
theorem mark_no {op : CmpOp} (h : noSet e = true) : behindInMarks op e = false := by
  cases e with
  | Set a b c => cases h
  | _ => rfl
theorem fold_no {x : Value} (h : noSet e = true) : foldedSetIterable e env x = pure x := by
  cases e with
  | Set a b c => cases h
  | _ => rfl
theorem swap_no {t : Option Expr} {n : Nat} (h : noBlk e = true) : swapsWith e t n env = pure false := by
  cases e with
  | ListComp _ _ _ _ => cases h
  | SetComp _ _ _ _ => cases h
  | DictComp _ _ _ _ _ => cases h
  | _ => rfl
end
/-! ### names -/
def okN (x : Str) : Bool := !(x == "__debug__") && !(x == "__classdict__") && !(x == "__name__")
def visB (sc : Scope) (x : Str) : Bool := match sc.names.lookup x with
  | some .local => true
  | some .cell => true
  | some .free => true
  | _ => false
def locB (sc : Scope) (x : Str) : Bool := match sc.names.lookup x with
  | some .local => true
  | some .cell => true
  | _ => false
def glB (sc : Scope) (x : Str) : Bool := match sc.names.lookup x with
  | some .globalImplicit => true
  | _ => false
def isLoc (sc : Scope) (x : Str) : Bool := match sc.names.lookup x with
  | some .local => true
  | _ => false
def isCel (sc : Scope) (x : Str) : Bool := match sc.names.lookup x with
  | some .cell => true
  | _ => false
theorem okN_1 {x : Str} (h : okN x = true) : (x == ("__debug__" : Str)) = false := by
  unfold okN at h; rw [Bool.and_eq_true, Bool.and_eq_true] at h
  simpa using h.1.1
theorem okN_2 {x : Str} (h : okN x = true) : (x == ("__classdict__" : Str)) = false := by
  unfold okN at h; rw [Bool.and_eq_true, Bool.and_eq_true] at h
  simpa using h.1.2
theorem okN_3 {x : Str} (h : okN x = true) : x ≠ "__name__" := by
  unfold okN at h; rw [Bool.and_eq_true, Bool.and_eq_true] at h
  simpa using h.2
theorem visB_ok {sc : Scope} {x : Str} (h : visB sc x = true) : Vis sc x := by
  unfold visB at h
  split at h
  · exact .inl ‹_›
  · exact .inr (.inl ‹_›)
  · exact .inr (.inr ‹_›)
  · cases h
theorem locB_ok {sc : Scope} {x : Str} (h : locB sc x = true) : Loc sc x := by
  unfold locB at h
  split at h
  · exact .inl ‹_›
  · exact .inr ‹_›
  · cases h
theorem glB_ok {sc : Scope} {x : Str} (h : glB sc x = true) : sc.names.lookup x = some .globalImplicit := by
  unfold glB at h
  split at h
  · assumption
  · cases h
theorem isLoc_ok {sc : Scope} {x : Str} (h : isLoc sc x = true) : sc.names.lookup x = some .local := by
  unfold isLoc at h
  split at h
  · assumption
  · cases h
theorem isCel_ok {sc : Scope} {x : Str} (h : isCel sc x = true) : sc.names.lookup x = some .cell := by
  unfold isCel at h
  split at h
  · assumption
  · cases h

/-! ### the look -/
/-- the names of a def's places, of the program's defs, of its constants -/
structure Tb where
  N : List Str
  fn : List Str
  gc : List Str
/-- built-in names that stand as they were -/
def bltN : List Str := ["len", "tuple", "list", "all", "any", "sum", "abs", "int", "max", "min", "sorted", "isinstance", "range", "enumerate", "zip", "bool", "str", "set", "dict"]
/-- a block's own names and their places -/
def ownOf (N : List Str) (scope : Scope) : List (Str × Nat) := scope.names.filterMap fun y => match y.2 with
  | .local => (N.findIdx? (· == y.1)).map (y.1, ·)
  | .cell => (N.findIdx? (· == y.1)).map (y.1, ·)
  | _ => none
/-- a built-in function by its name: type or function -/
def biName : Bi → Option (Bool × String)
  | .len => some (false, "len")
  | .tuple => some (true, "tuple")
  | .list => some (true, "list")
  | .all => some (false, "all")
  | .any => some (false, "any")
  | .sum => some (false, "sum")
  | .abs => some (false, "abs")
  | .int => some (true, "int")
  | .max => some (false, "max")
  | .min => some (false, "min")
  | .sorted => some (false, "sorted")
  | _ => none
mutual
/-- targets; cel: the names of the block (none: a def's body) -/
def chkTg (tb : Tb) (cel : Option Scope) (sc : Scope) : Tg → Expr → Bool
  | .nm i, .Name x _ => tb.N[i]? == some x && locB sc x && (match cel with
    | none => true
    | some s => isCel s x || isLoc sc x)
  | .tp ts, .Tuple es _ _ => chkTgs tb cel sc ts es && es.all noStar
  | _, _ => false
def chkTgs (tb : Tb) (cel : Option Scope) (sc : Scope) : List Tg → List Expr → Bool
  | [], [] => true
  | t :: ts, e :: es => chkTg tb cel sc t e && chkTgs tb cel sc ts es
  | _, _ => false
end
mutual
def chkE (tb : Tb) (sc : Scope) : IE → Expr → Bool
  | .loc i, .Name x _ => tb.N[i]? == some x && visB sc x && okN x
  | .con d, .Constant c _ _ => (match d, c with
    | .non, .none => true
    | .bl a, .bool b => a == b
    | .int a, .int b => a == b
    | .str a, .str b => a == b
    | _, _ => false)
  | .glob g, .Name x _ => tb.gc[g]? == some x && glB sc x && okN x
  | .tup es, .Tuple xs _ _ => chkEs tb sc es xs
  | .lst es, .List xs _ => chkEs tb sc es xs
  | .shl es, .List xs _ => chkEs tb sc es xs
  | .bin op a b, .BinOp x op' y _ => decide (op = op') && chkE tb sc a x && chkE tb sc b y
  | .neg a, .UnaryOp op x _ => decide (op = .USub) && chkE tb sc a x
  | .inv a, .UnaryOp op x _ => decide (op = .Invert) && chkE tb sc a x
  | .not a, .UnaryOp op x _ => decide (op = .Not) && chkE tb sc a x
  | .cmp op a b, .Compare x ops ys _ => (match ops, ys with
    | [op'], [y] => decide (op = op') && chkE tb sc a x && chkE tb sc b y && noSet y
    | _, _ => false)
  | .chain o1 o2 a b c, .Compare x ops ys _ => (match ops, ys with
    | [p1, p2], [y, z] => decide (o1 = p1) && decide (o2 = p2) && chkE tb sc a x && chkE tb sc b y && chkE tb sc c z && noSet z
    | _, _ => false)
  | .and a b, .BoolOp op vs pos => decide (op = .And) && (match vs with
    | [v, w] => chkE tb sc a v && chkE tb sc b w
    | v :: w :: rest => chkE tb sc a v && chkE tb sc b (.BoolOp .And (w :: rest) pos)
    | _ => false)
  | .or a b, .BoolOp op vs pos => decide (op = .Or) && (match vs with
    | [v, w] => chkE tb sc a v && chkE tb sc b w
    | v :: w :: rest => chkE tb sc a v && chkE tb sc b (.BoolOp .Or (w :: rest) pos)
    | _ => false)
  | .ite c a b, .IfExp x y z _ => chkE tb sc c x && chkE tb sc a y && chkE tb sc b z
  | .idx a i, .Subscript x y _ => chkE tb sc a x && chkE tb sc i y && noSlice y
  | .slc a lo hi, .Subscript x y _ => (match y with
    | .Slice l u none _ => chkE tb sc a x && chkO tb sc lo l && chkO tb sc hi u
    | _ => false)
  | .rev a, .Subscript x y _ => (match y with
    | .Slice none none (some (.UnaryOp op (.Constant c _ _) _)) _ => decide (op = .USub) && decide (c = .int 1) && chkE tb sc a x
    | _ => false)
  | .comp elt tg it cond vs, .ListComp e gens scope _ => (match gens with
    | [⟨t, i, ifs, asy⟩] => decide (asy = 0) && chkT tb sc it t i && noSet i && blkC tb.N sc scope (ownOf tb.N scope) && decide (vs = (ownOf tb.N scope).map (·.2)) && tg.vars.all (fun v => vs.contains v) &&
        chkTg tb (some scope) (relS scope sc) tg t && (match ifs with
          | [] => chkO tb (relS scope sc) cond none
          | [q] => chkO tb (relS scope sc) cond (some q)
          | _ => false) && chkE tb (relS scope sc) elt e
    | _ => false)
  | .call f es, .Call fx args kws _ => (match fx, args, kws with
    | .Name x _, a :: as, [] => tb.fn[f]? == some x && glB sc x && okN x && chkEs tb sc es (a :: as)
    | _, _, _ => false)
  | .bi b es, .Call fx args kws cpos => (match b with
    | .isi t => (match fx, args, kws, es with
      | .Name x _, [a, .Name y _], [], .cons e .nil => x == "isinstance" && y == t.sname && glB sc "isinstance" && glB sc t.sname && chkE tb sc e a && noStar a
      | _, _, _, _ => false)
    | .join => (match fx, args, kws, es with
      | .Attribute (.Constant (.str q) _ _) m apos, [a], [], .cons (.con (.str q')) (.cons e2 .nil) => m == "join" && apos.endLine == cpos.line && q == q' && chkE tb sc e2 a && noStar a
      | _, _, _, _ => false)
    | .sortSet => (match fx, args, kws, es with
      | .Name x _, [.Call (.Name y _) [a] [] _], [], .cons e .nil => x == "sorted" && y == "set" && glB sc "sorted" && glB sc "set" && chkE tb sc e a && noStar a
      | _, _, _, _ => false)
    | .sortDict => (match fx, args, kws, es with
      | .Name x _, [.Call (.Name y _) [a] [] _], [], .cons e .nil => x == "sorted" && y == "dict" && glB sc "sorted" && glB sc "dict" && chkE tb sc e a && noStar a
      | _, _, _, _ => false)
    | .getOr ks => (match fx, args, kws, es with
      | .Attribute (.Dict kk vs _) m apos, [a, a2], [], .cons e (.cons e2 .nil) => m == "get" && apos.endLine == cpos.line && keysChk ks kk vs && !ks.isEmpty && decide (ks.length ≤ 15) && chkE tb sc e a && noStar a && chkE tb sc e2 a2 && noStar a2
      | _, _, _, _ => false)
    | _ => (match biName b with
      | some (_, n) => (match fx, args, kws with
        | .Name x _, a :: as, [] => x == Str.ofString n && glB sc x && okN x && chkEs tb sc es (a :: as)
        | _, _, _ => false)
      | none => false))
  | .pop i, .Call fx args kws cpos => (match fx, args, kws with
    | .Attribute (.Name x _) m apos, [], [] => m == "pop" && tb.N[i]? == some x && visB sc x && okN x && apos.endLine == cpos.line
    | _, _, _ => false)
  | .popAt i e, .Call fx args kws cpos => (match fx, args, kws with
    | .Attribute (.Name x _) m apos, [a], [] => m == "pop" && tb.N[i]? == some x && visB sc x && okN x && apos.endLine == cpos.line && chkE tb sc e a && noStar a
    | _, _, _ => false)
  | .dget i k x, .Call fx args kws cpos => (match fx, args, kws with
    | .Attribute (.Name y _) m apos, [a, b], [] => m == "get" && tb.N[i]? == some y && visB sc y && okN y && apos.endLine == cpos.line && chkE tb sc k a && noStar a && chkE tb sc x b && noStar b
    | _, _, _ => false)
  | _, _ => false
def chkEs (tb : Tb) (sc : Scope) : IEs → List Expr → Bool
  | .nil, [] => true
  | .cons e es, x :: xs => chkE tb sc e x && noStar x && chkEs tb sc es xs
  | _, _ => false
def chkO (tb : Tb) (sc : Scope) : IO → Option Expr → Bool
  | .none, none => true
  | .some e, some x => chkE tb sc e x
  | _, _ => false
def chkT (tb : Tb) (sc : Scope) : IT → Expr → Expr → Bool
  | .each e, _, x => chkE tb sc e x
  | .rng1 e, _, .Call fx args kws _ => (match fx, args, kws with
    | .Name x _, [a], [] => x == "range" && glB sc "range" && chkE tb sc e a && noStar a
    | _, _, _ => false)
  | .rng2 e f, _, .Call fx args kws _ => (match fx, args, kws with
    | .Name x _, [a, b], [] => x == "range" && glB sc "range" && chkE tb sc e a && noStar a && chkE tb sc f b && noStar b
    | _, _, _ => false)
  | .enum e, t, .Call fx args kws _ => (match fx, args, kws with
    | .Name x _, [a], [] => x == "enumerate" && glB sc "enumerate" && chkE tb sc e a && noStar a && isTup t
    | _, _, _ => false)
  | .zip e f, t, .Call fx args kws _ => (match fx, args, kws with
    | .Name x _, [a, b], [] => x == "zip" && glB sc "zip" && chkE tb sc e a && noStar a && chkE tb sc f b && noStar b && isTup t
    | _, _, _ => false)
  | _, _, _ => false
end
end Pv

set_option maxRecDepth 100000
/-! Pv.Snd: where the look is true, the text follows the evaluator. -/
namespace Pv
open PySem PySem.Spec L2 C8
/-- what a context must have -/
structure Good (tb : Tb) (cf : Cf) (n : Nat) (X : Cx) : Prop where
  N : X.N = tb.N
  nd : tb.N.Nodup
  calm : X.calm = true
  room : Room n X.A
  kind : X.env.scope.kind = .function
  fn : ∀ (f : Nat) (x : Str), tb.fn[f]? = some x → Cal X.prog X.w X.K X.mg X.base n x (spM X.K (cf.call f)) [] ∧ ∀ ds s, cf.call f ds s = atSl s.sl (cf.call f ds ⟨[], s.sh⟩)
  gc : ∀ (g : Nat) (x : Str), tb.gc[g]? = some x → ∃ d v u, cf.cs[g]? = some d ∧ X.mg x = some u ∧ RelV v u ∧ ∀ c, Rp X.K c d v
  bf : ∀ x, x ∈ bltN → X.mg x = none
theorem Good.units {tb : Tb} {cf : Cf} {n : Nat} {X : Cx} (G : Good tb cf n X) : X.A.units + 64 < cLine := G.room.units
theorem relabel_relS (scope : Scope) (env : Env) : relabel scope env = relS scope env.scope := rfl
theorem Good.blk {tb : Tb} {cf : Cf} {n : Nat} {X : Cx} (G : Good tb cf n X) {s : Shared} {H : Hp} {scope : Scope} {cl : List (Str × Addr)} {C : Addr} {fp : List Addr} (hk : scope.kind = .function) :
    Good tb cf n (X.blk s H scope (compEnvC scope cl C X.env) fp) where
  N := G.N
  nd := G.nd
  calm := G.calm
  room := G.room
  kind := hk
  fn := G.fn
  gc := G.gc
  bf := G.bf
/-- how an expression follows -/
def plainT : Expr → Bool
  | .UnaryOp .Not _ _ => false
  | .BoolOp _ _ _ => false
  | .IfExp _ _ _ _ => false
  | .Compare _ _ _ _ => false
  | _ => true
def isBoolOp : Expr → Bool
  | .BoolOp _ _ _ => true
  | _ => false
theorem isTrue_plain {e : Expr} {env : Env} (h : plainT e = true) : ∀ whole, isTrue e env whole = (do let v ← whole; standAt e.pos; holding [v] (truthy v)) := by
  intro whole
  cases e with
  | UnaryOp op a b =>
    cases op with
    | Not => cases h
    | _ => rfl
  | BoolOp _ _ _ => cases h
  | IfExp _ _ _ _ => cases h
  | Compare _ _ _ _ => cases h
  | _ => rfl
theorem plain_noBool {e : Expr} (h : plainT e = true) : isBoolOp e = false := by
  cases e with
  | BoolOp _ _ _ => cases h
  | _ => rfl
structure EOk (X : Cx) (cf : Cf) (ie : IE) (e : Expr) : Prop where
  d : PE X e (tD X.K W0 (evE cf ie))
  f : ie.fresh = true → PE X e (tF X.K W0 (evE cf ie))
  p : PE X e (tP X.K W0 (peek ie.slot? (evE cf ie)))
  t : PT X e (tT X.K W0 (evE cf ie >>= asBl))
  w : isBoolOp e = true → PW X e (tT X.K W0 (evE cf ie >>= asBl))
section
variable {X : Cx} {cf : Cf} {ie : IE} {e : Expr}
theorem EOk.ofF (h : PE X e (tF X.K W0 (evE cf ie))) (hs : ie.slot? = none) (hp : plainT e = true) : EOk X cf ie e where
  d := pe_F h
  f := fun _ => h
  p := by rw [hs]; exact rl_peekN (pe_F h)
  t := rl_val (pe_F h) (isTrue_plain hp)
  w := fun q => by rw [plain_noBool hp] at q; cases q
theorem EOk.ofD (h : PE X e (tD X.K W0 (evE cf ie))) (hs : ie.slot? = none) (hf : ie.fresh = false) (hp : plainT e = true) : EOk X cf ie e where
  d := h
  f := fun q => by rw [hf] at q; cases q
  p := by rw [hs]; exact rl_peekN h
  t := rl_val h (isTrue_plain hp)
  w := fun q => by rw [plain_noBool hp] at q; cases q
theorem EOk.ofT (h : PE X e (tD X.K W0 (evE cf ie))) (hs : ie.slot? = none) (hf : ie.fresh = false) (ht : PT X e (tT X.K W0 (evE cf ie >>= asBl))) (hb : isBoolOp e = false) : EOk X cf ie e where
  d := h
  f := fun q => by rw [hf] at q; cases q
  p := by rw [hs]; exact rl_peekN h
  t := ht
  w := fun q => by rw [hb] at q; cases q
/-- a if c else b, as a test -/
theorem rl_iteT {c' a b : Expr} {pos : Pos} {f : M Bool} {g h : M D} (hc : PT X c' (tT X.K W0 f)) (ha : PT X a (tT X.K W0 (g >>= asBl))) (hb : PT X b (tT X.K W0 (h >>= asBl))) : PT X (.IfExp c' a b pos) (tT X.K W0 ((f >>= fun k => if k then g else h) >>= asBl)) := by
  refine ⟨fun pins s σ H Q I ⟨st, c, A, q⟩ => ?_⟩
  have q : Sat X.K W0 c σ (((f st).bind fun k s => (if k then g else h : M D) s).bind asBl) (fun _ b k => b = k) Q := q
  rw [R.bind_assoc] at q
  show wpAny _ _ (isTrue c' X.env (eval c' X.env) >>= _) _ _ s
  refine wpAny_bind (thn (hc.run pins s σ H _ I (tT_on A q fun k H1 st1 c1 l1 A1 h1 => (⟨st1, c1, A1, h1⟩ : ∃ st1 c1, Abs X.K c1 st1 σ H1 ∧ Sat X.K W0 c1 σ (((if k then g else h : M D) st1).bind asBl) (fun _ b k => b = k) Q))) fun k s1 ⟨H1, I1, st1, c1, A1, q1⟩ => ?_)
  cases k with
  | true => exact ha.run pins s1 σ H1 Q I1 ⟨st1, c1, A1, q1⟩
  | false => exact hb.run pins s1 σ H1 Q I1 ⟨st1, c1, A1, q1⟩
end
/-- what a comprehension must have -/
structure CmpP (X : Cx) (cf : Cf) (elt : IE) (tg : Tg) (it : IT) (cond : IO) (vs : List Nat) (e t i : Expr) (ifs : List Expr) (scope : Scope) : Prop where
  ex : ∃ own : List (Str × Nat), vs = own.map (·.2) ∧ PI X t i (tI X.K W0 (evT cf it)) ∧ BlkOk X.N X.env.scope scope own ∧
    (∀ (s : Shared) (H : Hp) (C : Addr) (cl : List (Str × Addr)) (fp : List Addr), PG (X.blk s H scope (compEnvC scope cl C X.env) fp) t (gTg X.K tg)) ∧
    (∀ (s : Shared) (H : Hp) (C : Addr) (cl : List (Str × Addr)) (fp : List Addr), PTs (X.blk s H scope (compEnvC scope cl C X.env) fp) ifs (tT X.K W0 (evC cf cond))) ∧
    (∀ (s : Shared) (H : Hp) (C : Addr) (cl : List (Str × Addr)) (fp : List Addr), PE (X.blk s H scope (compEnvC scope cl C X.env) fp) e (tD X.K W0 (evE cf elt))) ∧
    (∀ x, foldedSetIterable i X.env x = pure x) ∧ ∀ v ∈ tg.vars, v ∈ own.map (·.2)
/-- targets -/
structure TgC (tb : Tb) (cel : Option Scope) (sc : Scope) (X : Cx) : Prop where
  N : X.N = tb.N
  nd : tb.N.Nodup
  calm : X.calm = true
  sc : X.env.scope = sc
  fn : ∀ x, (match cel with
    | none => True
    | some s => isCel s x = true) → X.fn x = true
mutual
theorem sndTg {tb : Tb} {X : Cx} {cel : Option Scope} {sc : Scope} (C : TgC tb cel sc X) : ∀ (t : Tg) (e : Expr), chkTg tb cel sc t e = true → PG X e (gTg X.K t)
  | .nm i, e, h => by
    cases e with
    | Name x p =>
      simp only [chkTg, Bool.and_eq_true, beq_iff_eq] at h
      obtain ⟨⟨h1, h2⟩, h3⟩ := h
      refine rg_name (by rw [C.N]; exact C.nd) (by rw [C.N]; exact h1) (by rw [C.sc]; exact locB_ok h2) ?_
      cases hc : cel with
      | none => exact .inl (C.fn x (by rw [hc]; trivial))
      | some s =>
        rw [hc] at h3
        rw [Bool.or_eq_true] at h3
        rcases h3 with h3 | h3
        · exact .inl (C.fn x (by rw [hc]; exact h3))
        · exact .inr (by rw [C.sc]; exact isLoc_ok h3)
    | _ => exact Bool.noConfusion (show false = true from h)
  | .tp ts, e, h => by
    cases e with
    | Tuple es k p =>
      simp only [chkTg, Bool.and_eq_true] at h
      obtain ⟨h1, h2⟩ := sndTgs C ts es h.1
      obtain ⟨h3, h4⟩ := assign_len (env := X.env) h.2
      exact rg_tup C.calm h1 (by rw [h3, h2]) h4
    | _ => exact Bool.noConfusion (show false = true from h)
theorem sndTgs {tb : Tb} {X : Cx} {cel : Option Scope} {sc : Scope} (C : TgC tb cel sc X) : ∀ (ts : List Tg) (es : List Expr), chkTgs tb cel sc ts es = true → PGs X es (gTgs X.K ts) ∧ es.length = ts.length
  | [], es, h => by
    cases es with
    | nil => exact ⟨rg_nil, rfl⟩
    | cons e es => exact Bool.noConfusion (show false = true from h)
  | t :: ts, es, h => by
    cases es with
    | nil => exact Bool.noConfusion (show false = true from h)
    | cons e es =>
      simp only [chkTgs, Bool.and_eq_true] at h
      obtain ⟨h2, h3⟩ := sndTgs C ts es h.2
      have hn : noStar e = true := by
        cases e with
        | Starred a b => cases t <;> exact Bool.noConfusion (show false = true from h.1)
        | _ => rfl
      exact ⟨rg_cons (sndTg C t e h.1) h2 (by rw [assign_cons hn]; rfl), by rw [List.length_cons, List.length_cons, h3]⟩
end
theorem tg_form {tb : Tb} {cel : Option Scope} {sc : Scope} {t : Tg} {e : Expr} (h : chkTg tb cel sc t e = true) : noStar e = true := by
  cases e with
  | Starred a b => cases t <;> exact Bool.noConfusion (show false = true from h)
  | _ => rfl
theorem blt_mem {x : Str} (h : bltN.contains x = true) : x ∈ bltN := by simpa using h
/-- what a built-in function's rule is -/
theorem bi_rule {X : Cx} (hc : X.calm = true) (hu : X.A.units + 64 < cLine) {b : Bi} {ty : Bool} {n : String} (h : biName b = some (ty, n)) :
    CallR X (if ty then .type n else .builtin n) (rBi X.K b) ∧ bootBuiltins (Str.ofString n) = some (if ty then .type n else .builtin n) ∧ Str.ofString n ∈ bltN ∧ Str.ofString n ≠ "__name__" ∧ (Str.ofString n == ("__debug__" : Str)) = false := by
  cases b <;> cases h
  · exact ⟨bi_len, rfl, by decide +kernel, by decide +kernel, by decide +kernel⟩
  · exact ⟨bi_tuple, rfl, by decide +kernel, by decide +kernel, by decide +kernel⟩
  · exact ⟨bi_list, rfl, by decide +kernel, by decide +kernel, by decide +kernel⟩
  · exact ⟨bi_all hc, rfl, by decide +kernel, by decide +kernel, by decide +kernel⟩
  · exact ⟨bi_any hc, rfl, by decide +kernel, by decide +kernel, by decide +kernel⟩
  · exact ⟨bi_sum hc, rfl, by decide +kernel, by decide +kernel, by decide +kernel⟩
  · exact ⟨bi_abs, rfl, by decide +kernel, by decide +kernel, by decide +kernel⟩
  · exact ⟨bi_int, rfl, by decide +kernel, by decide +kernel, by decide +kernel⟩
  · exact ⟨bi_max hc, rfl, by decide +kernel, by decide +kernel, by decide +kernel⟩
  · exact ⟨bi_min hc, rfl, by decide +kernel, by decide +kernel, by decide +kernel⟩
  · exact ⟨bi_sorted hu, rfl, by decide +kernel, by decide +kernel, by decide +kernel⟩
end Pv

set_option maxRecDepth 100000
/-! Pv.SndE: the same for expressions. -/
namespace Pv
open PySem PySem.Spec L2 C8
theorem cmp_of {X : Cx} {cf : Cf} {elt : IE} {tg : Tg} {it : IT} {cond : IO} {vs : List Nat} {e t i : Expr} {ifs : List Expr} {scope : Scope} {pos : Pos} (hc : X.calm = true) (nd : X.N.Nodup) (h : CmpP X cf elt tg it cond vs e t i ifs scope) :
    PE X (.ListComp e [⟨t, i, ifs, 0⟩] scope pos) (tF X.K W0 (evE cf (.comp elt tg it cond vs))) := by
  obtain ⟨own, rfl, h1, h2, h3, h4, h5, h6, h7⟩ := h.ex
  exact rl_comp hc nd h1 h2 h3 h4 h5 h6 h7
theorem cmp_set {X : Cx} {cf : Cf} {elt : IE} {tg : Tg} {it : IT} {cond : IO} {vs : List Nat} {e t i : Expr} {ifs : List Expr} {scope : Scope} {pos py spos : Pos} {k : Nat} {y : Str} (hc : X.calm = true) (nd : X.N.Nodup) (h : CmpP X cf elt tg it cond vs e t i ifs scope)
    (hy : X.N[k]? = some y) (hyl : X.env.scope.names.lookup y = some .local) (hsw : swapsWith (.ListComp e [⟨t, i, ifs, 0⟩] scope pos) (some (.Name y py)) spos.line X.env = pure true) :
    PS X (.Assign [.Name y py] (.ListComp e [⟨t, i, ifs, 0⟩] scope pos) spos) (tAsg (tF X.K W0 (evE cf (.comp elt tg it cond vs))) (gName k)) := by
  obtain ⟨own, rfl, h1, h2, h3, h4, h5, h6, h7⟩ := h.ex
  exact rs_setComp hc nd hy hyl hsw h1 h2 h3 h4 h5 h6 h7
theorem PTs.one {X : Cx} {W : Ws} {e : Expr} {f : M D} (h : PT X e (tT X.K W (f >>= asBl))) : PTs X [e] (tT X.K W (f >>= asBl)) := rc_one h
/-- a clause's tests -/
def ifsOf : Option Expr → List Expr
  | none => []
  | some q => [q]
set_option maxHeartbeats 1000000 in
mutual
theorem sndE {tb : Tb} {cf : Cf} {n : Nat} : ∀ (ie : IE) {X : Cx} {e : Expr}, Good tb cf n X → chkE tb X.env.scope ie e = true → EOk X cf ie e
  | .loc i, X, e, G, h => by
    cases e with
    | Name x p =>
      simp only [chkE, Bool.and_eq_true, beq_iff_eq] at h
      obtain ⟨⟨h1, h2⟩, h3⟩ := h
      have hd : PE X (.Name x p) (tD X.K W0 (evE cf (.loc i))) := rl_loc (by rw [G.N]; exact h1) (visB_ok h2) (okN_1 h3) (okN_2 h3)
      exact ⟨hd, fun q => (nomatch q), rl_peek (by rw [G.N]; exact h1) (visB_ok h2) (okN_1 h3) (okN_2 h3), rl_val hd (isTrue_plain rfl), fun q => (nomatch q)⟩
    | _ => exact Bool.noConfusion (show false = true from h)
  | .con d, X, e, G, h => by
    cases e with
    | Constant c k p =>
      cases d <;> cases c <;> first
        | exact Bool.noConfusion (show false = true from h)
        | (simp only [chkE, beq_iff_eq] at h
           first
            | (subst h
               first
                | exact EOk.ofD rl_bl rfl rfl rfl
                | exact EOk.ofD rl_int rfl rfl rfl
                | exact EOk.ofD rl_str rfl rfl rfl))
        | exact EOk.ofD rl_non rfl rfl rfl
    | _ => exact Bool.noConfusion (show false = true from h)
  | .glob g, X, e, G, h => by
    cases e with
    | Name x p =>
      simp only [chkE, Bool.and_eq_true, beq_iff_eq] at h
      obtain ⟨⟨h1, h2⟩, h3⟩ := h
      obtain ⟨d, v, u, e1, e2, r, hr⟩ := G.gc g x h1
      exact EOk.ofD (rl_glob (o := cf.cs[g]?) (d := d) (fun z hz => by rw [e1] at hz; cases hz; rfl) (glB_ok h2) e2 r hr (okN_1 h3)) rfl rfl rfl
    | _ => exact Bool.noConfusion (show false = true from h)
  | .tup es, X, e, G, h => by
    cases e with
    | Tuple xs k p => exact EOk.ofF (rl_tup (sndEs es G h).1) rfl rfl
    | _ => exact Bool.noConfusion (show false = true from h)
  | .lst es, X, e, G, h => by
    cases e with
    | List xs p => exact EOk.ofF (rl_lst (sndEs es G h).1) rfl rfl
    | _ => exact Bool.noConfusion (show false = true from h)
  | .shl es, X, e, G, h => by
    cases e with
    | List xs p => exact EOk.ofD (rl_shl (sndEs es G h).1) rfl rfl rfl
    | _ => exact Bool.noConfusion (show false = true from h)
  | .bin op a b, X, e, G, h => by
    cases e with
    | BinOp x op' y p =>
      simp only [chkE, Bool.and_eq_true, decide_eq_true_eq] at h
      obtain ⟨⟨rfl, h1⟩, h2⟩ := h
      exact EOk.ofF (rl_bin (sndE a G h1).p (sndE b G h2).p) rfl rfl
    | _ => exact Bool.noConfusion (show false = true from h)
  | .neg a, X, e, G, h => by
    cases e with
    | UnaryOp op x p =>
      simp only [chkE, Bool.and_eq_true, decide_eq_true_eq] at h
      obtain ⟨rfl, h1⟩ := h
      exact EOk.ofD (rl_neg (sndE a G h1).d) rfl rfl rfl
    | _ => exact Bool.noConfusion (show false = true from h)
  | .inv a, X, e, G, h => by
    cases e with
    | UnaryOp op x p =>
      simp only [chkE, Bool.and_eq_true, decide_eq_true_eq] at h
      obtain ⟨rfl, h1⟩ := h
      exact EOk.ofD (rl_inv (sndE a G h1).d) rfl rfl rfl
    | _ => exact Bool.noConfusion (show false = true from h)
  | .not a, X, e, G, h => by
    cases e with
    | UnaryOp op x p =>
      simp only [chkE, Bool.and_eq_true, decide_eq_true_eq] at h
      obtain ⟨rfl, h1⟩ := h
      exact EOk.ofT (rl_not (sndE a G h1).d) rfl rfl (rl_notT (notM_T _) (sndE a G h1).t) rfl
    | _ => exact Bool.noConfusion (show false = true from h)
  | .cmp op a b, X, e, G, h => by
    cases e with
    | Compare x ops ys p =>
      match ops, ys, h with
      | [op'], [y], h =>
        simp only [chkE, Bool.and_eq_true, decide_eq_true_eq] at h
        obtain ⟨⟨⟨rfl, h1⟩, h2⟩, h3⟩ := h
        exact EOk.ofT (rl_cmp G.units (sndE a G h1).p (sndE b G h2).p (mark_no h3)) rfl rfl (rl_cmpT G.units (sndE a G h1).p (sndE b G h2).p (mark_no h3)) rfl
      | [], _, h => exact Bool.noConfusion (show false = true from h)
      | _ :: _ :: _, _, h => exact Bool.noConfusion (show false = true from h)
      | [_], [], h => exact Bool.noConfusion (show false = true from h)
      | [_], _ :: _ :: _, h => exact Bool.noConfusion (show false = true from h)
    | _ => exact Bool.noConfusion (show false = true from h)
  | .chain o1 o2 a b c, X, e, G, h => by
    cases e with
    | Compare x ops ys p =>
      match ops, ys, h with
      | [p1, p2], [y, z], h =>
        simp only [chkE, Bool.and_eq_true, decide_eq_true_eq] at h
        obtain ⟨⟨⟨⟨⟨rfl, rfl⟩, h1⟩, h2⟩, h3⟩, h4⟩ := h
        exact EOk.ofT (rl_chain G.units (sndE a G h1).d (sndE b G h2).d (sndE c G h3).d (mark_no h4)) rfl rfl (rl_chainT G.units (sndE a G h1).d (sndE b G h2).d (sndE c G h3).d (mark_no h4)) rfl
      | [], _, h => exact Bool.noConfusion (show false = true from h)
      | [_], _, h => exact Bool.noConfusion (show false = true from h)
      | _ :: _ :: _ :: _, _, h => exact Bool.noConfusion (show false = true from h)
      | [_, _], [], h => exact Bool.noConfusion (show false = true from h)
      | [_, _], [_], h => exact Bool.noConfusion (show false = true from h)
      | [_, _], _ :: _ :: _ :: _, h => exact Bool.noConfusion (show false = true from h)
    | _ => exact Bool.noConfusion (show false = true from h)
  | .and a b, X, e, G, h => by
    cases e with
    | BoolOp op vs p =>
      match vs, h with
      | [v, w], h =>
        simp only [chkE, Bool.and_eq_true, decide_eq_true_eq] at h
        obtain ⟨rfl, h1, h2⟩ := h
        have A := sndE a G h1
        have B := sndE b G h2
        have hd : PE X (.BoolOp .And [v, w] p) (tD X.K W0 (evE cf (.and a b))) := rl_and A.d (pe_one B.d)
        have ht : PW X (.BoolOp .And [v, w] p) (tT X.K W0 (evE cf (.and a b) >>= asBl)) := rl_andT (andM_T _ _) A.t (pw_and1 B.t)
        exact ⟨hd, fun q => (nomatch q), rl_peekN hd, ht.pt, fun _ => ht⟩
      | v :: w :: u :: rest, h =>
        simp only [chkE, Bool.and_eq_true, decide_eq_true_eq] at h
        obtain ⟨rfl, h1, h2⟩ := h
        have A := sndE a G h1
        have B := sndE b G h2
        have hd : PE X (.BoolOp .And (v :: w :: u :: rest) p) (tD X.K W0 (evE cf (.and a b))) := rl_and A.d B.d
        have ht : PW X (.BoolOp .And (v :: w :: u :: rest) p) (tT X.K W0 (evE cf (.and a b) >>= asBl)) := rl_andT (andM_T _ _) A.t (B.w rfl)
        exact ⟨hd, fun q => (nomatch q), rl_peekN hd, ht.pt, fun _ => ht⟩
      | [], h => simp [chkE] at h
      | [_], h => simp [chkE] at h
    | _ => exact Bool.noConfusion (show false = true from h)
  | .or a b, X, e, G, h => by
    cases e with
    | BoolOp op vs p =>
      match vs, h with
      | [v, w], h =>
        simp only [chkE, Bool.and_eq_true, decide_eq_true_eq] at h
        obtain ⟨rfl, h1, h2⟩ := h
        have A := sndE a G h1
        have B := sndE b G h2
        have hd : PE X (.BoolOp .Or [v, w] p) (tD X.K W0 (evE cf (.or a b))) := rl_or A.d (pe_one B.d)
        have ht : PW X (.BoolOp .Or [v, w] p) (tT X.K W0 (evE cf (.or a b) >>= asBl)) := rl_orT (orM_T _ _) A.t (pw_or1 B.t)
        exact ⟨hd, fun q => (nomatch q), rl_peekN hd, ht.pt, fun _ => ht⟩
      | v :: w :: u :: rest, h =>
        simp only [chkE, Bool.and_eq_true, decide_eq_true_eq] at h
        obtain ⟨rfl, h1, h2⟩ := h
        have A := sndE a G h1
        have B := sndE b G h2
        have hd : PE X (.BoolOp .Or (v :: w :: u :: rest) p) (tD X.K W0 (evE cf (.or a b))) := rl_or A.d B.d
        have ht : PW X (.BoolOp .Or (v :: w :: u :: rest) p) (tT X.K W0 (evE cf (.or a b) >>= asBl)) := rl_orT (orM_T _ _) A.t (B.w rfl)
        exact ⟨hd, fun q => (nomatch q), rl_peekN hd, ht.pt, fun _ => ht⟩
      | [], h => simp [chkE] at h
      | [_], h => simp [chkE] at h
    | _ => exact Bool.noConfusion (show false = true from h)
  | .ite c a b, X, e, G, h => by
    cases e with
    | IfExp x y z p =>
      simp only [chkE, Bool.and_eq_true] at h
      have C := sndE c G h.1.1
      have A := sndE a G h.1.2
      have B := sndE b G h.2
      exact EOk.ofT (rl_ite C.t A.d B.d) rfl rfl (rl_iteT C.t A.t B.t) rfl
    | _ => exact Bool.noConfusion (show false = true from h)
  | .idx a i, X, e, G, h => by
    cases e with
    | Subscript x y p =>
      simp only [chkE, Bool.and_eq_true] at h
      exact EOk.ofD (rl_idx G.units (sndE a G h.1.1).p (sndE i G h.1.2).d (plain_ix h.2)) rfl rfl rfl
    | _ => exact Bool.noConfusion (show false = true from h)
  | .slc a lo hi, X, e, G, h => by
    cases e with
    | Subscript x y p =>
      cases y with
      | Slice l u s q =>
        cases s with
        | none =>
          simp only [chkE, Bool.and_eq_true] at h
          exact EOk.ofF (rl_slc (sndE a G h.1.1).p (sndO lo G h.1.2).1 (sndO hi G h.2).1) rfl rfl
        | some s => exact Bool.noConfusion (show false = true from h)
      | _ => exact Bool.noConfusion (show false = true from h)
    | _ => exact Bool.noConfusion (show false = true from h)
  | .rev a, X, e, G, h => by
    cases e with
    | Subscript x y p =>
      simp only [chkE] at h
      split at h
      · simp only [Bool.and_eq_true, decide_eq_true_eq] at h
        obtain ⟨⟨rfl, rfl⟩, h1⟩ := h
        exact EOk.ofF (rl_rev (sndE a G h1).p) rfl rfl
      · cases h
    | _ => exact Bool.noConfusion (show false = true from h)
  | .comp elt tg it cond vs, X, e, G, h => by
    cases e with
    | ListComp el gens scope p =>
      simp only [chkE] at h
      split at h
      · rename_i t i ifs asy
        simp only [Bool.and_eq_true, decide_eq_true_eq] at h
        obtain ⟨⟨⟨⟨⟨⟨⟨⟨rfl, h1⟩, h2⟩, h3⟩, h4⟩, h5⟩, h6⟩, h7⟩, h8⟩ := h
        have hk : scope.kind = .function := (blkOk_by h3).kind
        refine EOk.ofF (cmp_of G.calm (by rw [G.N]; exact G.nd) ⟨ownOf tb.N scope, h4, sndT it G h1, by rw [G.N]; exact blkOk_by h3, fun s H C cl fp => ?_, fun s H C cl fp => ?_, fun s H C cl fp => (sndE elt (G.blk hk) h8).d, fun x => fold_no h2, fun v hv => ?_⟩) rfl rfl
        · refine sndTg (X := X.blk s H scope (compEnvC scope cl C X.env) fp) (tb := tb) (cel := some scope) (sc := relS scope X.env.scope) ⟨G.N, G.nd, G.calm, rfl, fun x hx => ?_⟩ tg t h6
          show (scope.names.lookup x == some .cell) = true
          rw [isCel_ok hx]
          rfl
        · split at h7
          · exact (sndO cond (x := none) (G.blk hk) h7).2
          · rename_i q
            exact (sndO cond (x := some q) (G.blk hk) h7).2
          · cases h7
        · have := List.all_eq_true.mp h5 v hv
          rw [← h4]
          simpa using this
      · cases h
    | _ => exact Bool.noConfusion (show false = true from h)
  | .call f es, X, e, G, h => by
    cases e with
    | Call fx args kws p =>
      simp only [chkE] at h
      split at h
      · rename_i x px a as
        simp only [Bool.and_eq_true, beq_iff_eq] at h
        obtain ⟨⟨⟨h1, h2⟩, h3⟩, h4⟩ := h
        obtain ⟨c, hm⟩ := G.fn f x h1
        obtain ⟨ha, _, hst⟩ := sndEs es G h4
        rw [List.all_cons, Bool.and_eq_true] at hst
        exact EOk.ofD (rl_call hm c G.room (Nat.le_refl n) (glB_ok h2) ha (okN_1 h3) (star_cons hst.1) (star_any p hst.2)) rfl rfl rfl
      · cases h
    | _ => exact Bool.noConfusion (show false = true from h)
  | .bi b es, X, e, G, h => by
    cases e with
    | Call fx args kws p =>
      unfold chkE at h
      split at h
      · rename_i t
        split at h
        · rename_i x px a y py e2
          simp only [Bool.and_eq_true, beq_iff_eq] at h
          obtain ⟨⟨⟨⟨⟨rfl, rfl⟩, h3⟩, h4⟩, h5⟩, h6⟩ := h
          exact EOk.ofF (rl_isi (fun s => rfl) rfl (glB_ok h3) (G.bf _ (by decide +kernel)) (glB_ok h4) (G.bf _ (by cases t <;> decide +kernel)) (sndE e2 G h5).p (star_cons h6)) rfl rfl
        · cases h
      · split at h
        · rename_i q k1 p1 m apos a q' e2
          simp only [Bool.and_eq_true, beq_iff_eq] at h
          obtain ⟨⟨⟨⟨rfl, h2⟩, rfl⟩, h4⟩, h5⟩ := h
          exact EOk.ofF (rl_join (fun s => by
            show ((peek e2.slot? (evE cf e2) s).bind fun p s => .ok [p] s).bind (fun ps s => .ok (.dv (.str q) :: ps) s) = _
            rw [R.bind_assoc]
            rfl) (sndE e2 G h4).p (star_one h5) (by simpa using h2)) rfl rfl
        · cases h
      · split at h
        · rename_i x px y py a p2 e2
          simp only [Bool.and_eq_true, beq_iff_eq] at h
          obtain ⟨⟨⟨⟨⟨h1, h2⟩, h3⟩, h4⟩, h5⟩, h6⟩ := h
          exact EOk.ofF (rl_sortSet G.calm G.units (fun s => rfl) h1 h2 (glB_ok h3) (G.bf _ (by decide +kernel)) (glB_ok h4) (G.bf _ (by decide +kernel)) (sndE e2 G h5).p (star_one h6)) rfl rfl
        · cases h
      · split at h
        · rename_i x px y py a p2 e2
          simp only [Bool.and_eq_true, beq_iff_eq] at h
          obtain ⟨⟨⟨⟨⟨h1, h2⟩, h3⟩, h4⟩, h5⟩, h6⟩ := h
          exact EOk.ofF (rl_sortDict G.calm G.units (fun s => rfl) h1 h2 (glB_ok h3) (G.bf _ (by decide +kernel)) (glB_ok h4) (G.bf _ (by decide +kernel)) (sndE e2 G h5).p (star_one h6)) rfl rfl
        · cases h
      · split at h
        · rename_i kk vs p1 m apos a a2 e1 e2
          simp only [Bool.and_eq_true, beq_iff_eq, decide_eq_true_eq] at h
          obtain ⟨⟨⟨⟨⟨⟨⟨⟨rfl, h2⟩, h3⟩, h4⟩, h5⟩, h6⟩, h7⟩, h8⟩, h9⟩ := h
          exact EOk.ofF (rl_getOr G.units (fun s => by
            show (peek e1.slot? (evE cf e1) s).bind (fun p s => ((peek e2.slot? (evE cf e2) s).bind fun p s => .ok [p] s).bind (fun ps s => .ok (p :: ps) s)) = _
            congr 1
            funext p s
            rw [R.bind_assoc]
            rfl) h3 (by intro z; subst z; cases h4) h5 (sndE e1 G h6).p (sndE e2 G h8).p ⟨rfl, by rw [star_cons h7, star_one h9]; rfl, by simpa using h2, by rw [star_cons h7, star_one h9]; rfl⟩) rfl rfl
        · cases h
      · split at h
        · rename_i ty nm hb
          split at h
          · rename_i x px a as
            simp only [Bool.and_eq_true, beq_iff_eq] at h
            obtain ⟨⟨⟨rfl, h2⟩, h3⟩, h4⟩ := h
            obtain ⟨hr, hv, hm, hn, hd⟩ := bi_rule G.calm G.units hb
            obtain ⟨_, ha, hst⟩ := sndEs es G h4
            rw [List.all_cons, Bool.and_eq_true] at hst
            cases ty with
            | true => exact EOk.ofF (rl_biT hr (glB_ok h2) (G.bf _ hm) hv ha hn hd (star_cons hst.1) (star_any p hst.2)) rfl rfl
            | false => exact EOk.ofF (rl_biB hr (glB_ok h2) (G.bf _ hm) hv ha hn hd (star_cons hst.1) (star_any p hst.2)) rfl rfl
          · cases h
        · cases h
    | _ => exact Bool.noConfusion (show false = true from h)
  | .pop i, X, e, G, h => by
    cases e with
    | Call fx args kws p =>
      simp only [chkE] at h
      split at h
      · rename_i x px m apos
        simp only [Bool.and_eq_true, beq_iff_eq] at h
        obtain ⟨⟨⟨⟨rfl, h1⟩, h2⟩, h3⟩, h4⟩ := h
        exact EOk.ofD (rl_pop (by rw [G.N]; exact h1) (visB_ok h2) (okN_1 h3) (okN_2 h3) (by simpa using h4)) rfl rfl rfl
      · cases h
    | _ => exact Bool.noConfusion (show false = true from h)
  | .popAt i a, X, e, G, h => by
    cases e with
    | Call fx args kws p =>
      simp only [chkE] at h
      split at h
      · rename_i x px m apos b
        simp only [Bool.and_eq_true, beq_iff_eq] at h
        obtain ⟨⟨⟨⟨⟨⟨rfl, h1⟩, h2⟩, h3⟩, h4⟩, h5⟩, h6⟩ := h
        exact EOk.ofD (rl_popAt (by rw [G.N]; exact h1) (visB_ok h2) (okN_1 h3) (okN_2 h3) (sndE a G h5).d (star_one h6) (by simpa using h4)) rfl rfl rfl
      · cases h
    | _ => exact Bool.noConfusion (show false = true from h)
  | .dget i k x, X, e, G, h => by
    cases e with
    | Call fx args kws p =>
      simp only [chkE] at h
      split at h
      · rename_i y py m apos a b
        simp only [Bool.and_eq_true, beq_iff_eq] at h
        obtain ⟨⟨⟨⟨⟨⟨⟨⟨rfl, h1⟩, h2⟩, h3⟩, h4⟩, h5⟩, h6⟩, h7⟩, h8⟩ := h
        exact EOk.ofD (rl_dget G.units (by rw [G.N]; exact h1) (visB_ok h2) (okN_1 h3) (okN_2 h3) (sndE k G h5).d (sndE x G h7).d ⟨rfl, by rw [star_cons h6, star_one h8]; rfl, by simpa using h4, by rw [star_cons h6, star_one h8]; rfl⟩) rfl rfl rfl
      · cases h
    | _ => exact Bool.noConfusion (show false = true from h)
theorem sndEs {tb : Tb} {cf : Cf} {n : Nat} : ∀ (es : IEs) {X : Cx} {xs : List Expr}, Good tb cf n X → chkEs tb X.env.scope es xs = true → PA X xs (tDs X.K W0 (evEs cf es)) ∧ PA X xs (tPs X.K W0 (evPs cf es)) ∧ xs.all noStar = true
  | .nil, X, xs, G, h => by
    cases xs with
    | nil => exact ⟨ra_nil fun s => rfl, rp_nil fun s => rfl, rfl⟩
    | cons x xs => exact Bool.noConfusion (show false = true from h)
  | .cons e es, X, xs, G, h => by
    cases xs with
    | nil => exact Bool.noConfusion (show false = true from h)
    | cons x xs =>
      simp only [chkEs, Bool.and_eq_true] at h
      have E := sndE e G h.1.1
      obtain ⟨h1, h2, h3⟩ := sndEs es G h.2
      exact ⟨ra_cons E.d h1 (star_cons h.1.2), rp_cons E.p h2 (star_cons h.1.2), by rw [List.all_cons, h.1.2, h3]; rfl⟩
theorem sndO {tb : Tb} {cf : Cf} {n : Nat} : ∀ (o : IO) {X : Cx} {x : Option Expr}, Good tb cf n X → chkO tb X.env.scope o x = true → PO X x (tOi X.K W0 (evO cf o)) ∧ PTs X (ifsOf x) (tT X.K W0 (evC cf o))
  | .none, X, x, G, h => by
    cases x with
    | none => exact ⟨ro_none fun s => rfl, rc_none fun s => rfl⟩
    | some x => exact Bool.noConfusion (show false = true from h)
  | .some e, X, x, G, h => by
    cases x with
    | none => exact Bool.noConfusion (show false = true from h)
    | some x =>
      have E := sndE e G (show chkE tb X.env.scope e x = true from h)
      exact ⟨ro_some E.d, rc_one E.t⟩
theorem sndT {tb : Tb} {cf : Cf} {n : Nat} : ∀ (it : IT) {X : Cx} {t x : Expr}, Good tb cf n X → chkT tb X.env.scope it t x = true → PI X t x (tI X.K W0 (evT cf it))
  | .each e, X, t, x, G, h => ri_each (sndE e G (show chkE tb X.env.scope e x = true from h)).d
  | .rng1 e, X, t, x, G, h => by
    cases x with
    | Call fx args kws p =>
      simp only [chkT] at h
      split at h
      · rename_i nm pn a
        simp only [Bool.and_eq_true, beq_iff_eq] at h
        obtain ⟨⟨⟨rfl, h1⟩, h2⟩, h3⟩ := h
        exact ri_rng1 (glB_ok h1) (G.bf _ (by decide +kernel)) (sndE e G h2).d (star_one h3)
      · cases h
    | _ => exact Bool.noConfusion (show false = true from h)
  | .rng2 e f, X, t, x, G, h => by
    cases x with
    | Call fx args kws p =>
      simp only [chkT] at h
      split at h
      · rename_i nm pn a b
        simp only [Bool.and_eq_true, beq_iff_eq] at h
        obtain ⟨⟨⟨⟨⟨rfl, h1⟩, h2⟩, h3⟩, h4⟩, h5⟩ := h
        exact ri_rng2 (glB_ok h1) (G.bf _ (by decide +kernel)) (sndE e G h2).d (sndE f G h4).d (by rw [star_cons h3, star_one h5]) (star_one h5)
      · cases h
    | _ => exact Bool.noConfusion (show false = true from h)
  | .enum e, X, t, x, G, h => by
    cases x with
    | Call fx args kws p =>
      simp only [chkT] at h
      split at h
      · rename_i nm pn a
        simp only [Bool.and_eq_true, beq_iff_eq] at h
        obtain ⟨⟨⟨⟨rfl, h1⟩, h2⟩, h3⟩, h4⟩ := h
        cases t with
        | Tuple el k tp => exact ri_enum (glB_ok h1) (G.bf _ (by decide +kernel)) (sndE e G h2).d (star_one h3)
        | _ => cases h4
      · cases h
    | _ => exact Bool.noConfusion (show false = true from h)
  | .zip e f, X, t, x, G, h => by
    cases x with
    | Call fx args kws p =>
      simp only [chkT] at h
      split at h
      · rename_i nm pn a b
        simp only [Bool.and_eq_true, beq_iff_eq] at h
        obtain ⟨⟨⟨⟨⟨⟨rfl, h1⟩, h2⟩, h3⟩, h4⟩, h5⟩, h6⟩ := h
        cases t with
        | Tuple el k tp => exact ri_zip (glB_ok h1) (G.bf _ (by decide +kernel)) (sndE e G h2).d (sndE f G h4).d (star_cons h3) (star_one h5)
        | _ => cases h6
      · cases h
    | _ => exact Bool.noConfusion (show false = true from h)
end
end Pv

set_option maxRecDepth 100000
/-! Pv.SndS: the same for statements. -/
namespace Pv
open PySem PySem.Spec L2 C8
/-! ### stores that are exchanged, or not -/
def isNameLoc (sc : Scope) : Expr → Bool
  | .Name x _ => isLoc sc x
  | _ => false
/-- no exchange -/
def notSw (sc : Scope) (xs vs : List Expr) : Bool := xs.any (fun x => !isNameLoc sc x) || decide (4 ≤ xs.length) || vs.all (foldedForSure 8)
theorem filterMap_lt {α β : Type} {f : α → Option β} : ∀ {l : List α}, (∃ x ∈ l, f x = none) → (l.filterMap f).length < l.length
  | [], h => by obtain ⟨x, hx, _⟩ := h; cases hx
  | a :: l, h => by
    rw [List.filterMap_cons]
    cases e : f a with
    | none =>
      exact Nat.lt_succ_of_le (List.length_filterMap_le f l)
    | some b =>
      obtain ⟨x, hx, hn⟩ := h
      rcases List.mem_cons.mp hx with rfl | hx
      · rw [e] at hn; cases hn
      · simp only [List.length_cons]
        exact Nat.succ_lt_succ (filterMap_lt ⟨x, hx, hn⟩)
theorem notSw_ok {sc : Scope} {env : Env} (hsc : env.scope = sc) {xs vs : List Expr} {k k2 : Nat} {p p2 : Pos} (h : notSw sc xs vs = true) : swappedStores [.Tuple xs k p] (.Tuple vs k2 p2) env = pure none := by
  unfold notSw at h
  rw [Bool.or_eq_true, Bool.or_eq_true] at h
  unfold swappedStores
  simp only
  split
  · rfl
  rename_i c1
  split
  · rfl
  rename_i c2
  split
  · rfl
  rename_i c3
  split
  · rfl
  rename_i c4
  exfalso
  rcases h with (h | h) | h
  · obtain ⟨x, hx, hn⟩ := List.any_eq_true.mp h
    apply c3
    rw [Bool.or_eq_true]
    refine .inl ?_
    have lt := filterMap_lt (f := fun e => match e with
      | .Name id pos => if (env.kindOf id == some .local && pos.line == (xs.head?.map (·.pos.line)).getD 0) = true then some id else none
      | _ => none) ⟨x, hx, by
        cases x with
        | Name id pos =>
          have hn' : isLoc sc id = false := by simpa [isNameLoc] using hn
          have : (env.kindOf id == some .local) = false := by
            unfold isLoc at hn'
            unfold Env.kindOf
            rw [hsc]
            cases e : sc.names.lookup id with
            | none => rfl
            | some q => cases q <;> first | rfl | (rw [e] at hn'; cases hn')
          simp only [this, Bool.false_and]
          rfl
        | _ => rfl⟩
    rw [bne_iff_ne]
    exact Nat.ne_of_lt lt
  · have hl := of_decide_eq_true h
    apply c1
    have : (xs.length == 2 || xs.length == 3) = false := by
      rw [Bool.or_eq_false_iff]
      constructor <;> (rw [beq_eq_false_iff_ne]; omega)
    rw [this]
    rfl
  · exact c4 h
/-- an exchange of two -/
def sw2 (sc : Scope) (x y : Str) (px py : Pos) (a b : Expr) : Bool :=
  isLoc sc x && isLoc sc y && py.line == px.line && !(x == y) && noStar a && noStar b && !([a, b].all (foldedForSure 8)) && !([a, b].all (constantsAlone 8))
theorem sw_star {vs : List Expr} (h : vs.all noStar = true) (c : (vs.any fun | .Starred .. => true | _ => false) = true) : False := by
  obtain ⟨x, hx, hq⟩ := List.any_eq_true.mp c
  have := List.all_eq_true.mp h x hx
  cases x with
  | Starred a b => cases this
  | _ => cases hq
theorem sw2_ok {sc : Scope} {env : Env} (hsc : env.scope = sc) (hk : sc.kind = .function) {x y : Str} {px py : Pos} {a b : Expr} {k k2 : Nat} {p p2 : Pos} (h : sw2 sc x y px py a b = true) :
    swappedStores [.Tuple [.Name x px, .Name y py] k p] (.Tuple [a, b] k2 p2) env = pure (some [x, y]) := by
  unfold sw2 at h
  simp only [Bool.and_eq_true, Bool.not_eq_true', beq_iff_eq, beq_eq_false_iff_ne] at h
  obtain ⟨⟨⟨⟨⟨⟨⟨h1, h2⟩, h3⟩, h4⟩, h5⟩, h6⟩, h7⟩, h8⟩ := h
  have k1 : env.kindOf x = some .local := by unfold Env.kindOf; rw [hsc]; exact isLoc_ok h1
  have k2' : env.kindOf y = some .local := by unfold Env.kindOf; rw [hsc]; exact isLoc_ok h2
  have hb : env.blockKind = .function := by unfold Env.blockKind; rw [hsc, hk]; rfl
  have e1 : ([x, y].eraseDups.length != [x, y].length) = false := by
    simp [List.eraseDups_cons, h4, Ne.symm h4]
  unfold swappedStores
  simp only
  split
  · rename_i c
    rw [hb] at c
    simp at c
  split
  · rename_i c
    exact (sw_star (vs := [a, b]) (by simp [h5, h6]) c).elim
  have en : (List.filterMap (fun e => match e with
      | Expr.Name id pos => if (env.kindOf id == some .local && pos.line == (([Expr.Name x px, Expr.Name y py] : List Expr).head?.map (·.pos.line)).getD 0) = true then some id else none
      | _ => none) [Expr.Name x px, Expr.Name y py]) = [x, y] := by simp [k1, k2', h3, Expr.pos]
  split
  · rename_i c
    exfalso
    have c' : (([x, y] : List Str).length != 2 || ([x, y] : List Str).eraseDups.length != ([x, y] : List Str).length) = true := by
      rw [← en]; exact c
    rw [e1] at c'
    simp at c'
  split
  · rename_i c
    rw [h7] at c; cases c
  split
  · rename_i c
    rw [h8] at c; cases c
  · show pure (some (List.filterMap _ _)) = _
    exact congrArg (fun z => (pure (some z) : Sem (Option (List Str)))) en
def sw3 (sc : Scope) (x y z : Str) (px py pz : Pos) (a b c : Expr) : Bool :=
  isLoc sc x && isLoc sc y && isLoc sc z && py.line == px.line && pz.line == px.line && !(x == y) && !(x == z) && !(y == z) && noStar a && noStar b && noStar c && !([a, b, c].all (foldedForSure 8)) && !([a, b, c].all (constantsAlone 8))
theorem sw3_ok {sc : Scope} {env : Env} (hsc : env.scope = sc) (hk : sc.kind = .function) {x y z : Str} {px py pz : Pos} {a b c : Expr} {k k2 : Nat} {p p2 : Pos} (h : sw3 sc x y z px py pz a b c = true) :
    swappedStores [.Tuple [.Name x px, .Name y py, .Name z pz] k p] (.Tuple [a, b, c] k2 p2) env = pure (some [x, y, z]) := by
  unfold sw3 at h
  simp only [Bool.and_eq_true, Bool.not_eq_true', beq_iff_eq, beq_eq_false_iff_ne] at h
  obtain ⟨⟨⟨⟨⟨⟨⟨⟨⟨⟨⟨⟨h1, h2⟩, h3⟩, h4⟩, h5⟩, h6⟩, h7⟩, h8⟩, h9⟩, h10⟩, h11⟩, h12⟩, h13⟩ := h
  have k1 : env.kindOf x = some .local := by unfold Env.kindOf; rw [hsc]; exact isLoc_ok h1
  have k2' : env.kindOf y = some .local := by unfold Env.kindOf; rw [hsc]; exact isLoc_ok h2
  have k3 : env.kindOf z = some .local := by unfold Env.kindOf; rw [hsc]; exact isLoc_ok h3
  have hb : env.blockKind = .function := by unfold Env.blockKind; rw [hsc, hk]; rfl
  have e1 : ([x, y, z].eraseDups.length != [x, y, z].length) = false := by
    simp [List.eraseDups_cons, h6, h7, h8, Ne.symm h6, Ne.symm h7, Ne.symm h8]
  unfold swappedStores
  simp only
  split
  · rename_i c
    rw [hb] at c
    simp at c
  split
  · rename_i c
    exact (sw_star (vs := [a, b, _]) (by simp [h9, h10, h11]) c).elim
  have en : (List.filterMap (fun e => match e with
      | Expr.Name id pos => if (env.kindOf id == some .local && pos.line == (([Expr.Name x px, Expr.Name y py, Expr.Name z pz] : List Expr).head?.map (·.pos.line)).getD 0) = true then some id else none
      | _ => none) [Expr.Name x px, Expr.Name y py, Expr.Name z pz]) = [x, y, z] := by simp [k1, k2', k3, h4, h5, Expr.pos]
  split
  · rename_i c
    exfalso
    have c' : (([x, y, z] : List Str).length != 3 || ([x, y, z] : List Str).eraseDups.length != ([x, y, z] : List Str).length) = true := by
      rw [← en]; exact c
    rw [e1] at c'
    simp at c'
  split
  · rename_i c
    rw [h12] at c; cases c
  split
  · rename_i c
    rw [h13] at c; cases c
  · show pure (some (List.filterMap _ _)) = _
    exact congrArg (fun z => (pure (some z) : Sem (Option (List Str)))) en
/-! ### a comprehension that is stored -/
def blkY (sc : Scope) (x : Str) (px : Pos) : Expr → Bool
  | .ListComp _ _ scope vp => isLoc sc x && px.line == vp.line && !(scope.names.any fun y => y.1 == x && (y.2 == .local || y.2 == .cell))
  | _ => false
def blkN (sc : Scope) (x : Str) : Expr → Bool
  | .ListComp _ _ _ _ => !isLoc sc x
  | e => noBlk e
theorem blkSw_one {sc : Scope} {env : Env} (hsc : env.scope = sc) {x : Str} {px : Pos} {e : Expr} {l : Nat} (h : blkN sc x e = true) : swapsWith e (some (.Name x px)) l env = pure false := by
  have nl : ∀ b c d : Bool, isLoc sc x = false → (b && env.kindOf x == some .local && c && d) = false := by
    intro b c d hl
    have : (env.kindOf x == some .local) = false := by
      unfold isLoc at hl
      unfold Env.kindOf
      rw [hsc]
      cases e : sc.names.lookup x with
      | none => rfl
      | some q => cases q <;> first | rfl | (rw [e] at hl; cases hl)
    rw [this]
    simp
  cases e with
  | ListComp a b c d =>
    have hl' : isLoc sc x = false := by
      have : (!isLoc sc x) = true := h
      simpa using this
    show pure _ = _
    exact congrArg pure (nl _ _ _ hl')
  | SetComp _ _ _ _ => cases h
  | DictComp _ _ _ _ _ => cases h
  | _ => rfl
/-- a store's statement, where the source is no comprehension or one: both roads -/
theorem blkSw_two {sc : Scope} {x : Str} {px : Pos} {e : Expr} (h : blkY sc x px e = true) : ∃ a b scope vp, e = .ListComp a b scope vp ∧ sc.names.lookup x = some .local ∧ (px.line == vp.line) = true ∧ (scope.names.any fun y => y.1 == x && (y.2 == .local || y.2 == .cell)) = false := by
  cases e with
  | ListComp a b c d =>
    have q : (isLoc sc x && px.line == d.line && !(c.names.any fun y => y.1 == x && (y.2 == .local || y.2 == .cell))) = true := h
    rw [Bool.and_eq_true, Bool.and_eq_true, Bool.not_eq_true'] at q
    exact ⟨a, b, c, d, rfl, isLoc_ok q.1.1, q.1.2, q.2⟩
  | _ => cases h
/-! ### the look at statements -/
def chkU (tb : Tb) (sc : Scope) (ts : List Tg) (ie : IE) (xs : List Expr) (v : Expr) : Bool := match v with
  | .Tuple vs _ _ => notSw sc xs vs || (match ts, xs, vs with
    | [.nm i, .nm j], [.Name x px, .Name y py], [a, b] => decide (i ≠ j) && sw2 sc x y px py a b
    | [.nm i, .nm j, .nm k], [.Name x px, .Name y py, .Name z pz], [a, b, c] => decide (i ≠ j) && decide (i ≠ k) && decide (j ≠ k) && sw3 sc x y z px py pz a b c
    | _, _, _ => false)
  | _ => true
mutual
def chkS (tb : Tb) (sc : Scope) : IS → Stmt → Bool
  | .set i e, .Assign ts v _ => (match ts with
    | [.Name x px] => tb.N[i]? == some x && locB sc x && chkE tb sc e v && (blkN sc x v || blkY sc x px v)
    | _ => false)
  | .own i e, .Assign ts v _ => (match ts with
    | [.Name x px] => tb.N[i]? == some x && locB sc x && chkE tb sc e v && (blkN sc x v || blkY sc x px v) && e.fresh
    | _ => false)
  | .unp ts e, .Assign tgs v _ => (match tgs with
    | [.Tuple xs k p] => chkTg tb none sc (.tp ts) (.Tuple xs k p) && chkE tb sc e v && chkU tb sc ts e xs v
    | _ => false)
  | .dic q, .Assign ts v _ => (match ts, q, v with
    | [.Name x _], .nw i _, .Dict ks vs _ => tb.N[i]? == some x && locB sc x && ks.isEmpty && vs.isEmpty
    | [.Name x _], .mk i e, .Call (.Name y _) [a] [] _ => y == "dict" && glB sc "dict" && tb.N[i]? == some x && locB sc x && chkE tb sc e a && noStar a
    | _, _, _ => false)
  | .par ps, .Assign ts v _ => (match ts, ps, v with
    | [.Tuple [.Name x px, .Name y py] _ _], [.fz i e, .ow j f], .Tuple [a, b] _ _ => tb.N[i]? == some x && tb.N[j]? == some y && decide (i ≠ j) && (sw2 sc x y px py a b || (notSw sc [.Name x px, .Name y py] [a, b] && locB sc x && locB sc y && noStar a && noStar b)) && chkE tb sc e a && chkE tb sc f b && f.fresh
    | [.Tuple [.Name x px, .Name y py] _ _], [.fz i e, .nw j _], .Tuple [a, .Dict ks vs pd] _ _ => tb.N[i]? == some x && tb.N[j]? == some y && decide (i ≠ j) && (sw2 sc x y px py a (.Dict ks vs pd) || (notSw sc [.Name x px, .Name y py] [a, .Dict ks vs pd] && locB sc x && locB sc y && noStar a)) && chkE tb sc e a && ks.isEmpty && vs.isEmpty
    | _, _, _ => false)
  | .sto i k e, .Assign ts v _ => (match ts with
    | [.Subscript (.Name x _) ke _] => tb.N[i]? == some x && visB sc x && okN x && chkE tb sc e v && chkE tb sc k ke && noSlice ke
    | _ => false)
  | .app i e, .Expr v _ => (match v with
    | .Call (.Attribute (.Name x _) m apos) [a] [] cpos => m == "append" && tb.N[i]? == some x && visB sc x && okN x && apos.endLine == cpos.line && chkE tb sc e a && noStar a
    | _ => false)
  | .expr e, .Expr v _ => noBlk v && chkE tb sc e v
  | .iff c a b, .If t p q _ => chkE tb sc c t && chkSs tb sc a p && chkSs tb sc b q
  | .for tg it body, .For t i b orelse _ => chkTg tb none sc tg t && chkT tb sc it t i && noSet i && chkSs tb sc body b && orelse.isEmpty
  | .whl c body, .While t b orelse _ => chkE tb sc c t && chkSs tb sc body b && orelse.isEmpty
  | .ret e, .Return v _ => (match v with
    | some v => chkE tb sc e v
    | none => false)
  | .retN, .Return v _ => v.isNone
  | .raise, _ => true
  | .pass, .Pass _ => true
  | .pass, .Expr v _ => (match v with
    | .Constant (.str _) _ _ => true
    | _ => false)
  | .brk, .Break _ => true
  | .cont, .Continue _ => true
  | _, _ => false
def chkSs (tb : Tb) (sc : Scope) : ISs → List Stmt → Bool
  | .nil, [] => true
  | .cons s ss, x :: xs => chkS tb sc s x && chkSs tb sc ss xs
  | _, _ => false
end
/-- a def's body's context -/
structure GoodS (tb : Tb) (cf : Cf) (n : Nat) (X : Cx) : Prop extends Good tb cf n X where
  hp : PassesOwn (model X.prog X.w) X.A X.env X.xe
  fnt : ∀ x, X.fn x = true
theorem GoodS.tg {tb : Tb} {cf : Cf} {n : Nat} {X : Cx} (G : GoodS tb cf n X) : TgC tb none X.env.scope X := ⟨G.N, G.nd, G.calm, rfl, fun x _ => G.fnt x⟩
theorem swap_tup {xs : List Expr} {k : Nat} {p : Pos} {v : Expr} {l : Nat} {env : Env} : swapsWithSole [.Tuple xs k p] v l env = pure false := by
  cases v <;> rfl
theorem swap_sub {a b : Expr} {p : Pos} {v : Expr} {l : Nat} {env : Env} : swapsWithSole [.Subscript a b p] v l env = pure false := by
  cases v <;> rfl
theorem sws_sub {a b : Expr} {p : Pos} {v : Expr} {env : Env} : swappedStores [.Subscript a b p] v env = pure none := by
  cases v <;> rfl
theorem sws_noTup {xs : List Expr} {k : Nat} {p : Pos} {v : Expr} {env : Env} (h : isTup v = false) : swappedStores [.Tuple xs k p] v env = pure none := by
  cases v with
  | Tuple _ _ _ => cases h
  | _ => rfl
/-- the parts of a comprehension that is looked at -/
theorem cmp_parts {tb : Tb} {cf : Cf} {n : Nat} {X : Cx} (G : Good tb cf n X) {ie : IE} {a : Expr} {b : List Comprehension} {scope : Scope} {vp : Pos} (h : chkE tb X.env.scope ie (.ListComp a b scope vp) = true) :
    ∃ elt tg it cond vs t i ifs, ie = .comp elt tg it cond vs ∧ b = [⟨t, i, ifs, 0⟩] ∧ CmpP X cf elt tg it cond vs a t i ifs scope := by
  cases ie with
  | comp elt tg it cond vs =>
    simp only [chkE] at h
    split at h
    · rename_i t i ifs asy
      simp only [Bool.and_eq_true, decide_eq_true_eq] at h
      obtain ⟨⟨⟨⟨⟨⟨⟨⟨rfl, h1⟩, h2⟩, h3⟩, h4⟩, h5⟩, h6⟩, h7⟩, h8⟩ := h
      have hk : scope.kind = .function := (blkOk_by h3).kind
      refine ⟨elt, tg, it, cond, vs, t, i, ifs, rfl, rfl, ⟨ownOf tb.N scope, h4, sndT it G h1, by rw [G.N]; exact blkOk_by h3, fun s H C cl fp => ?_, fun s H C cl fp => ?_, fun s H C cl fp => (sndE elt (G.blk hk) h8).d, fun x => fold_no h2, fun v hv => ?_⟩⟩
      · refine sndTg (X := X.blk s H scope (compEnvC scope cl C X.env) fp) (tb := tb) (cel := some scope) (sc := relS scope X.env.scope) ⟨G.N, G.nd, G.calm, rfl, fun x hx => ?_⟩ tg t h6
        show (scope.names.lookup x == some .cell) = true
        rw [isCel_ok hx]
        rfl
      · split at h7
        · exact (sndO cond (x := none) (G.blk hk) h7).2
        · rename_i q
          exact (sndO cond (x := some q) (G.blk hk) h7).2
        · cases h7
      · have := List.all_eq_true.mp h5 v hv
        rw [← h4]
        simpa using this
    · cases h
  | bi b es => cases b <;> exact Bool.noConfusion (show false = true from h)
  | _ => exact Bool.noConfusion (show false = true from h)
/-- a name's store, its list new or not -/
theorem store_ok {tb : Tb} {cf : Cf} {n : Nat} {X : Cx} (G : GoodS tb cf n X) {i : Nat} {ie : IE} {x : Str} {px pos : Pos} {v : Expr} (h1 : tb.N[i]? = some x) (h2 : locB X.env.scope x = true) (h3 : chkE tb X.env.scope ie v = true) (h4 : (blkN X.env.scope x v || blkY X.env.scope x px v) = true) :
    PS X (.Assign [.Name x px] v pos) (tS X.K W0 (evE cf ie >>= fun d => setSl i (.fz d) >>= fun _ => Pure.pure .nx)) ∧
    (ie.fresh = true → PS X (.Assign [.Name x px] v pos) (tS X.K W0 (evE cf ie >>= fun d => ofO (mkSl true ie.fresh d) >>= fun x => setSl i x >>= fun _ => Pure.pure .nx))) := by
  have nd : X.N.Nodup := by rw [G.N]; exact G.nd
  have hi : X.N[i]? = some x := by rw [G.N]; exact h1
  have E := sndE ie G.toGood h3
  rw [Bool.or_eq_true] at h4
  rcases h4 with hc | hc
  · exact ⟨rs_set nd hi (locB_ok h2) E.d (blkSw_one rfl hc) (.inl (G.fnt x)), fun hf => rs_own nd hi (locB_ok h2) (E.f hf) (blkSw_one rfl hc) (.inl (G.fnt x))⟩
  · obtain ⟨a, b, scope, vp, rfl, e1, e2, e3⟩ := blkSw_two hc
    obtain ⟨elt, tg, it, cond, vs, t, i', ifs, rfl, rfl, C⟩ := cmp_parts G.toGood h3
    have hs := cmp_set (spos := pos) (py := px) (pos := vp) G.calm nd C hi e1 (sw_true G.kind e1 e2 e3)
    exact ⟨rs_setC hs, fun _ => rs_ownC hs⟩
mutual
theorem sndS {tb : Tb} {cf : Cf} {n Wh : Nat} {X : Cx} (G : GoodS tb cf n X) : ∀ (s : IS) (x : Stmt), chkS tb X.env.scope s x = true → PS X x (tS X.K W0 (evS cf Wh s))
  | .set i e, x, h => by
    cases x with
    | Assign ts v p =>
      simp only [chkS] at h
      split at h
      · rename_i y py
        simp only [Bool.and_eq_true, beq_iff_eq] at h
        obtain ⟨⟨⟨h1, h2⟩, h3⟩, h4⟩ := h
        exact (store_ok G h1 h2 h3 h4).1
      · cases h
    | _ => exact Bool.noConfusion (show false = true from h)
  | .own i e, x, h => by
    cases x with
    | Assign ts v p =>
      simp only [chkS] at h
      split at h
      · rename_i y py
        simp only [Bool.and_eq_true, beq_iff_eq] at h
        obtain ⟨⟨⟨⟨h1, h2⟩, h3⟩, h4⟩, h5⟩ := h
        exact (store_ok G h1 h2 h3 h4).2 h5
      · cases h
    | _ => exact Bool.noConfusion (show false = true from h)
  | .unp ts e, x, h => by
    cases x with
    | Assign tgs v p =>
      simp only [chkS] at h
      split at h
      · rename_i xs k tp
        simp only [Bool.and_eq_true] at h
        obtain ⟨⟨h1, h2⟩, h3⟩ := h
        have gT := sndTg G.tg _ _ h1
        have E := sndE e G.toGood h2
        have hn : noStar (.Tuple xs k tp) = true := rfl
        have plain : swappedStores [.Tuple xs k tp] v X.env = pure none → PS X (.Assign [.Tuple xs k tp] v p) (tS X.K W0 (evS cf Wh (.unp ts e))) := fun hw => rs_unp E.d gT swap_tup hw (by rw [assign_cons hn]; rfl)
        unfold chkU at h3
        split at h3
        · rename_i vs k2 p2
          rw [Bool.or_eq_true] at h3
          rcases h3 with h3 | h3
          · exact plain (notSw_ok rfl h3)
          · split at h3
            · rename_i i j x px y py a b
              simp only [Bool.and_eq_true, decide_eq_true_eq] at h3
              obtain ⟨h3, h4⟩ := h3
              have hl := h4
              unfold sw2 at hl
              simp only [Bool.and_eq_true] at hl
              simp only [chkTg, chkTgs, Bool.and_eq_true, beq_iff_eq] at h1
              cases e with
              | tup es =>
                have hv := sndEs es G.toGood (show chkEs tb X.env.scope es [a, b] = true from h2)
                exact rs_par2 G.calm (by rw [G.N]; exact G.nd) (by rw [G.N]; exact h1.1.1.1.1) (by rw [G.N]; exact h1.1.2.1.1.1) h3 (isLoc_ok hl.1.1.1.1.1.1.1) (isLoc_ok hl.1.1.1.1.1.1.2) hv.1 (sw2_ok rfl G.kind h4) swap_tup
              | bi b es => cases b <;> exact Bool.noConfusion (show false = true from h2)
              | _ => exact Bool.noConfusion (show false = true from h2)
            · rename_i i j l x px y py z pz a b c
              simp only [Bool.and_eq_true, decide_eq_true_eq] at h3
              obtain ⟨⟨⟨h3, h5⟩, h6⟩, h4⟩ := h3
              have hl := h4
              unfold sw3 at hl
              simp only [Bool.and_eq_true] at hl
              simp only [chkTg, chkTgs, Bool.and_eq_true, beq_iff_eq] at h1
              cases e with
              | tup es =>
                have hv := sndEs es G.toGood (show chkEs tb X.env.scope es [a, b, c] = true from h2)
                exact rs_par3 G.calm (by rw [G.N]; exact G.nd) (by rw [G.N]; exact h1.1.1.1.1) (by rw [G.N]; exact h1.1.2.1.1.1) (by rw [G.N]; exact h1.1.2.2.1.1.1) h3 h5 h6 (isLoc_ok hl.1.1.1.1.1.1.1.1.1.1.1.1) (isLoc_ok hl.1.1.1.1.1.1.1.1.1.1.1.2) (isLoc_ok hl.1.1.1.1.1.1.1.1.1.1.2) hv.1 (sw3_ok rfl G.kind h4) swap_tup
              | bi b es => cases b <;> exact Bool.noConfusion (show false = true from h2)
              | _ => exact Bool.noConfusion (show false = true from h2)
            · cases h3
        · rename_i hne
          refine plain (sws_noTup ?_)
          cases v with
          | Tuple a b c => exact (hne a b c rfl).elim
          | _ => rfl
      · cases h
    | _ => exact Bool.noConfusion (show false = true from h)
  | .par ps, x, h => by
    cases x with
    | Assign ts v p =>
      simp only [chkS] at h
      split at h
      · rename_i x px y py k1 p1 i e j f a b k2 p2
        simp only [Bool.and_eq_true, beq_iff_eq, decide_eq_true_eq] at h
        obtain ⟨⟨⟨⟨⟨⟨h1, h2⟩, h3⟩, h4⟩, h5⟩, h6⟩, h7⟩ := h
        have r : PS X (.Assign [.Tuple [.Name x px, .Name y py] k1 p1] (.Tuple [a, b] k2 p2) p) (tS X.K W0 (evE cf e >>= fun d => evE cf f >>= fun e => ofO (mkSl true f.fresh e) >>= fun z => setSl i (.fz d) >>= fun _ => setSl j z >>= fun _ => Pure.pure .nx)) := by
          rw [Bool.or_eq_true] at h4
          rcases h4 with h4 | h4
          · have hl := h4
            unfold sw2 at hl
            simp only [Bool.and_eq_true] at hl
            exact rs_parFO (pos := p) (fr := f.fresh) (kt := k1) (pt := p1) (k2 := k2) (pt2 := p2) G.calm (by rw [G.N]; exact G.nd) (by rw [G.N]; exact h1) (by rw [G.N]; exact h2) h3 (isLoc_ok hl.1.1.1.1.1.1.1) (isLoc_ok hl.1.1.1.1.1.1.2) (sndE e G.toGood h5).d ((sndE f G.toGood h6).f h7) (star_cons hl.1.1.1.2) (star_cons hl.1.1.2) (sw2_ok rfl G.kind h4) swap_tup
          · simp only [Bool.and_eq_true] at h4
            exact rs_parFO2 (pos := p) (fr := f.fresh) (kt := k1) (pt := p1) (k2 := k2) (pt2 := p2) G.calm (by rw [G.N]; exact G.nd) (by rw [G.N]; exact h1) (by rw [G.N]; exact h2) (locB_ok h4.1.1.1.2) (locB_ok h4.1.1.2) G.fnt (sndE e G.toGood h5).d ((sndE f G.toGood h6).f h7) (star_cons h4.1.2) (star_cons h4.2) (notSw_ok rfl h4.1.1.1.1) swap_tup
        refine PS.imp r fun E σ H h => ?_
        have e1 : evS cf Wh (.par [.fz i e, .ow j f]) = (evE cf e >>= fun d => evE cf f >>= fun z => ofO (mkSl true f.fresh z) >>= fun z => setSl i (.fz d) >>= fun _ => setSl j z >>= fun _ => Pure.pure .nx) := by
          show ((((evE cf e >>= fun d => (Pure.pure (Sl.fz d) : M Sl)) >>= fun x => ((evE cf f >>= fun z => ofO (mkSl true f.fresh z)) >>= fun y => (Pure.pure [] : M (List Sl)) >>= fun ys => (Pure.pure (y :: ys) : M (List Sl))) >>= fun xs => (Pure.pure (x :: xs) : M (List Sl))) >>= fun xs => setSls [.fz i e, .ow j f] xs >>= fun _ => (Pure.pure Fl.nx : M Fl)) : M Fl) = _
          simp only [M.assoc, M.pbind, setSls, Par.i]
        rw [e1] at h
        exact h
      · rename_i x px y py k1 p1 i e j t a ks vs pd k2 p2
        simp only [Bool.and_eq_true, beq_iff_eq, decide_eq_true_eq, List.isEmpty_iff] at h
        obtain ⟨⟨⟨⟨⟨⟨h1, h2⟩, h3⟩, h4⟩, h5⟩, rfl⟩, rfl⟩ := h
        have r : PS X (.Assign [.Tuple [.Name x px, .Name y py] k1 p1] (.Tuple [a, .Dict [] [] pd] k2 p2) p) (tS X.K W0 (evE cf e >>= fun d => setSl i (.fz d) >>= fun _ => setSl j (.ow (dct t [])) >>= fun _ => Pure.pure .nx)) := by
          rw [Bool.or_eq_true] at h4
          rcases h4 with h4 | h4
          · have hl := h4
            unfold sw2 at hl
            simp only [Bool.and_eq_true] at hl
            exact rs_parFN (pos := p) (t := t) (kt := k1) (pt := p1) (k2 := k2) (pt2 := p2) G.calm (by rw [G.N]; exact G.nd) (by rw [G.N]; exact h1) (by rw [G.N]; exact h2) h3 (isLoc_ok hl.1.1.1.1.1.1.1) (isLoc_ok hl.1.1.1.1.1.1.2) (sndE e G.toGood h5).d (star_cons hl.1.1.1.2) (star_cons hl.1.1.2) (sw2_ok rfl G.kind h4) swap_tup
          · simp only [Bool.and_eq_true] at h4
            exact rs_parFN2 (pos := p) (t := t) (kt := k1) (pt := p1) (k2 := k2) (pt2 := p2) G.calm (by rw [G.N]; exact G.nd) (by rw [G.N]; exact h1) (by rw [G.N]; exact h2) (locB_ok h4.1.1.2) (locB_ok h4.1.2) G.fnt (sndE e G.toGood h5).d (star_cons h4.2) (star_cons rfl) (notSw_ok rfl h4.1.1.1) swap_tup
        refine PS.imp r fun E σ H h => ?_
        have e1 : evS cf Wh (.par [.fz i e, .nw j t]) = (evE cf e >>= fun d => setSl i (.fz d) >>= fun _ => setSl j (.ow (dct t [])) >>= fun _ => Pure.pure .nx) := by
          show ((((evE cf e >>= fun d => (Pure.pure (Sl.fz d) : M Sl)) >>= fun x => ((Pure.pure (.ow (dct t [])) : M Sl) >>= fun y => (Pure.pure [] : M (List Sl)) >>= fun ys => (Pure.pure (y :: ys) : M (List Sl))) >>= fun xs => (Pure.pure (x :: xs) : M (List Sl))) >>= fun xs => setSls [.fz i e, .nw j t] xs >>= fun _ => (Pure.pure Fl.nx : M Fl)) : M Fl) = _
          simp only [M.assoc, M.pbind, setSls, Par.i]
        rw [e1] at h
        exact h
      · cases h
    | _ => exact Bool.noConfusion (show false = true from h)
  | .dic q, x, h => by
    cases x with
    | Assign ts v p =>
      simp only [chkS] at h
      split at h
      · rename_i x px i t ks vs p2
        simp only [Bool.and_eq_true, beq_iff_eq, List.isEmpty_iff] at h
        obtain ⟨⟨⟨h1, h2⟩, rfl⟩, rfl⟩ := h
        exact rs_dicNew (by rw [G.N]; exact G.nd) (by rw [G.N]; exact h1) (locB_ok h2) rfl (.inl (G.fnt _))
      · rename_i x px i e y py a p2
        simp only [Bool.and_eq_true, beq_iff_eq] at h
        obtain ⟨⟨⟨⟨⟨rfl, h1⟩, h2⟩, h3⟩, h4⟩, h5⟩ := h
        exact rs_dicMk G.calm G.units (by rw [G.N]; exact G.nd) (by rw [G.N]; exact h2) (locB_ok h3) rfl (glB_ok h1) (G.bf _ (by decide +kernel)) (sndE e G.toGood h4).d (star_one h5) rfl (.inl (G.fnt _))
      · cases h
    | _ => exact Bool.noConfusion (show false = true from h)
  | .sto i k e, x, h => by
    cases x with
    | Assign ts v p =>
      simp only [chkS] at h
      split at h
      · rename_i y py ke p2
        simp only [Bool.and_eq_true, beq_iff_eq] at h
        obtain ⟨⟨⟨⟨⟨h1, h2⟩, h3⟩, h4⟩, h5⟩, h6⟩ := h
        exact rs_sto G.units (by rw [G.N]; exact h1) (visB_ok h2) (okN_1 h3) (okN_2 h3) (sndE e G.toGood h4).d (sndE k G.toGood h5).d swap_sub sws_sub rfl fun l u q z => by subst z; cases h6
      · cases h
    | _ => exact Bool.noConfusion (show false = true from h)
  | .app i e, x, h => by
    cases x with
    | Expr v p =>
      simp only [chkS] at h
      split at h
      · rename_i y py m apos a cpos
        simp only [Bool.and_eq_true, beq_iff_eq] at h
        obtain ⟨⟨⟨⟨⟨⟨rfl, h1⟩, h2⟩, h3⟩, h4⟩, h5⟩, h6⟩ := h
        exact rs_app (by rw [G.N]; exact h1) (visB_ok h2) (okN_1 h3) (okN_2 h3) (sndE e G.toGood h5).d (star_one h6) (by simpa using h4)
      · cases h
    | _ => exact Bool.noConfusion (show false = true from h)
  | .expr e, x, h => by
    cases x with
    | Expr v p =>
      simp only [chkS, Bool.and_eq_true] at h
      exact rs_expr (sndE e G.toGood h.2).d (swap_no h.1)
    | _ => exact Bool.noConfusion (show false = true from h)
  | .iff c a b, x, h => by
    cases x with
    | If t p q pos =>
      simp only [chkS, Bool.and_eq_true] at h
      exact rs_if (sndE c G.toGood h.1.1).t (sndSs G a p h.1.2) (sndSs G b q h.2)
    | _ => exact Bool.noConfusion (show false = true from h)
  | .for tg it body, x, h => by
    cases x with
    | For t i b orelse pos =>
      simp only [chkS, Bool.and_eq_true] at h
      obtain ⟨⟨⟨⟨h1, h2⟩, h3⟩, h4⟩, h5⟩ := h
      cases orelse with
      | nil => exact rs_for G.hp G.calm (sndT it G.toGood h2) (sndTg G.tg tg t h1) (sndSs G body b h4) fun x => fold_no h3
      | cons a b => cases h5
    | _ => exact Bool.noConfusion (show false = true from h)
  | .whl c body, x, h => by
    cases x with
    | While t b orelse pos =>
      simp only [chkS, Bool.and_eq_true] at h
      obtain ⟨⟨h1, h2⟩, h3⟩ := h
      cases orelse with
      | nil => exact rs_whl G.hp (sndE c G.toGood h1).t (sndSs G body b h2)
      | cons a b => cases h3
    | _ => exact Bool.noConfusion (show false = true from h)
  | .ret e, x, h => by
    cases x with
    | Return v pos =>
      cases v with
      | some v => exact rs_ret (sndE e G.toGood (show chkE tb X.env.scope e v = true from h)).d
      | none => exact Bool.noConfusion (show false = true from h)
    | _ => exact Bool.noConfusion (show false = true from h)
  | .retN, x, h => by
    cases x with
    | Return v pos =>
      cases v with
      | some v => exact Bool.noConfusion (show false = true from h)
      | none => exact rs_retN
    | _ => exact Bool.noConfusion (show false = true from h)
  | .raise, x, h => rs_never fun st => rfl
  | .pass, x, h => by
    cases x with
    | Pass p => exact rs_pass
    | Expr v p =>
      simp only [chkS] at h
      split at h
      · exact rs_doc
      · cases h
    | _ => exact Bool.noConfusion (show false = true from h)
  | .brk, x, h => by
    cases x with
    | Break p => exact rs_break
    | _ => exact Bool.noConfusion (show false = true from h)
  | .cont, x, h => by
    cases x with
    | Continue p => exact rs_cont
    | _ => exact Bool.noConfusion (show false = true from h)
theorem sndSs {tb : Tb} {cf : Cf} {n Wh : Nat} {X : Cx} (G : GoodS tb cf n X) : ∀ (s : ISs) (x : List Stmt), chkSs tb X.env.scope s x = true → PSs X x (tS X.K W0 (evSs cf Wh s))
  | .nil, x, h => by
    cases x with
    | nil => exact rs_nil
    | cons x xs => exact Bool.noConfusion (show false = true from h)
  | .cons s ss, x, h => by
    cases x with
    | nil => exact Bool.noConfusion (show false = true from h)
    | cons x xs =>
      simp only [chkSs, Bool.and_eq_true] at h
      have r := rs_cons (sndS (Wh := Wh) G s x h.1) (sndSs (Wh := Wh) G ss xs h.2)
      have e : thenM (evS cf Wh s) (evSs cf Wh ss) = evSs cf Wh (.cons s ss) := by
        funext st
        rw [thenM_ap]
        show _ = (evS cf Wh s st).bind _
        congr 1
        funext k s
        cases k <;> rfl
      rw [← e]
      exact r
end
end Pv

set_option maxRecDepth 100000
/-! Pv.Prg: a whole program. -/
namespace Pv
open PySem PySem.Spec L2 C8
theorem fm_congr {α β : Type} {f g : α → Option β} : ∀ {l : List α}, (∀ x ∈ l, f x = g x) → l.filterMap f = l.filterMap g
  | [], _ => rfl
  | a :: l, h => by
    rw [List.filterMap_cons, List.filterMap_cons, h a (by simp), fm_congr (l := l) fun x hx => h x (by simp [hx])]
theorem zip_lookup : ∀ {ps : List Str} {us : List Value}, ps.Nodup → us.length = ps.length → ps.filterMap (fun n => ((ps.zip us).lookup n).map (n, ·)) = ps.zip us
  | [], us, _, h => by
    cases us with
    | nil => rfl
    | cons u us => cases h
  | p :: ps, [], _, h => by cases h
  | p :: ps, u :: us, nd, h => by
    have nd' := List.nodup_cons.mp nd
    rw [List.zip_cons_cons, List.filterMap_cons]
    have e1 : (((p, u) :: ps.zip us).lookup p) = some u := by simp [List.lookup_cons]
    rw [e1]
    show (p, u) :: _ = _
    congr 1
    have ih := zip_lookup nd'.2 (by simpa using h)
    refine Eq.trans ?_ ih
    exact fm_congr fun n hn => by
      have : n ≠ p := fun z => nd'.1 (z ▸ hn)
      rw [List.lookup_cons]
      have e2 : (n == p) = false := by simpa using this
      rw [e2]
theorem zip_some : ∀ {ps : List Str} {us : List Value}, us.length = ps.length → ∀ n ∈ ps, ((ps.zip us).lookup n).isNone = false
  | [], us, h, n, hn => by cases hn
  | p :: ps, [], h, n, hn => by cases h
  | p :: ps, u :: us, h, n, hn => by
    rw [List.zip_cons_cons, List.lookup_cons]
    cases e : n == p with
    | true => rfl
    | false =>
      rcases List.mem_cons.mp hn with rfl | hn
      · simp at e
      · exact zip_some (by simpa using h) n hn
theorem bind_plain {ps : List Str} {us : List Value} {fd : FuncData} (nd : ps.Nodup) (hl : us.length = ps.length) (h1 : fd.params.posonlyargs = []) (h2 : fd.params.args.map (·.arg) = ps) (h3 : fd.params.vararg = none) (h4 : fd.params.kwonlyargs = []) (h5 : fd.params.kwarg = none) (h6 : fd.defaults = .none) :
    bindArgs fd ⟨us, []⟩ = pure (ps.zip us) := by
  unfold bindArgs
  simp only [h1, h2, h3, h4, h5, h6, List.map_nil, List.nil_append, List.append_nil]
  have e1 : (us.length > ps.length && (none : Option Arg).isNone) = false := by simp [hl]
  have e2 : ((ps.take (ps.length - (([] : List Value).drop (0 - ps.length)).length)).filter fun n => ((ps.zip us).lookup n).isNone) = [] := by
    rw [List.filter_eq_nil_iff]
    intro n hn
    have := zip_some hl n (List.mem_of_mem_take hn)
    simp [this]
  show (if (decide (us.length > ps.length) && _) = true then _ else _) = _
  rw [if_neg (by rw [e1]; decide)]
  show (if (!(List.filter (fun n => ((ps.zip us).lookup n).isNone) (ps.take (ps.length - (([] : List Value).drop (0 - ps.length)).length))).isEmpty) = true then _ else _) = _
  rw [e2, if_neg (by decide)]
  have e3 : ((ps.drop (ps.length - (([] : List Value).drop (0 - ps.length)).length)).zip (([] : List Value).drop (0 - ps.length))) = [] := by simp
  have e4 : ((ps.drop (ps.length - (List.drop ((Option.getD none #[] : Array Value).toList.length - ps.length) (Option.getD none #[] : Array Value).toList).length)).zip (List.drop ((Option.getD none #[] : Array Value).toList.length - ps.length) (Option.getD none #[] : Array Value).toList)) = [] := e3
  rw [e4]
  exact congrArg (fun z => (pure z : Sem (List (Str × Value)))) (zip_lookup nd hl)
/-! ### the data of a program -/
/-- a def: its name, its text, its places' names (the parameters first), the parameters, what it does -/
structure FnE where
  name : Str
  st : Stmt
  N : List Str
  ps : List Str
  fn : Fn
structure Prg where
  es : List FnE
  cs : List (Str × D)
def Prg.names (p : Prg) : List Str := p.es.map (·.name)
def Prg.fns (p : Prg) : List Fn := p.es.map (·.fn)
def Prg.cds (p : Prg) : List D := p.cs.map (·.2)
def Prg.tb (p : Prg) (N : List Str) : Tb := ⟨N, p.names, p.cs.map (·.1)⟩
def argsB (a : Arguments) (ps : List Str) : Bool := a.posonlyargs.isEmpty && decide (a.args.map (·.arg) = ps) && a.vararg.isNone && a.kwonlyargs.isEmpty && a.kwarg.isNone
/-- the look at a def -/
def Prg.chkF (p : Prg) (e : FnE) : Bool := scC e.N e.ps (fnScope e.st) && argsB (fnArgs e.st) e.ps && decide e.ps.Nodup && decide (e.fn.np = e.ps.length) && decide (e.fn.ns = e.N.length) && chkSs (p.tb e.N) (fnScope e.st) e.fn.body (fnBody e.st)
def Prg.chk (p : Prg) : Bool := p.es.all fun e => p.chkF e
/-! ### constants of the module -/
mutual
def kRp (K : PySem.W.Frag) : D → Value → Bool
  | .non, .none => true
  | .bl b, .bool c => b == c
  | .int i, .int j _ => i == j
  | .str x, .str y _ => x == y
  | .tup ds, .ref a => (match K.lookup a with
    | some o => (match o.cls, o.data with
      | .type c, .seq its _ => decide (c = "tuple") && decide (its.size ≤ sizeLine) && kRpL K ds its.toList
      | _, _ => false)
    | none => false)
  | .lst ds, .ref a => (match K.lookup a with
    | some o => (match o.cls, o.dict, o.data with
      | .type c, none, .seq its _ => decide (c = "list") && decide (its.size ≤ sizeLine) && kRpL K ds its.toList
      | _, _, _ => false)
    | none => false)
  | _, _ => false
def kRpL (K : PySem.W.Frag) : List D → List Value → Bool
  | [], [] => true
  | d :: ds, u :: us => kRp K d u && kRpL K ds us
  | _, _ => false
end
mutual
theorem kRp_ok {K : PySem.W.Frag} : ∀ (d : D) (u : Value), kRp K d u = true → ∃ v, RelV v u ∧ ∀ c, Rp K c d v
  | .non, u, h => by
    cases u <;> first | exact ⟨.non, rfl, fun c => by simp only [Rp]⟩ | cases h
  | .bl b, u, h => by
    cases u <;> first | exact Bool.noConfusion (show false = true from h) | (simp only [kRp, beq_iff_eq] at h; subst h; exact ⟨.bl b, rfl, fun c => by simp only [Rp]⟩)
  | .int b, u, h => by
    cases u <;> first | exact Bool.noConfusion (show false = true from h) | (simp only [kRp, beq_iff_eq] at h; subst h; exact ⟨.int b, ⟨_, rfl⟩, fun c => by simp only [Rp]⟩)
  | .str b, u, h => by
    cases u <;> first | exact Bool.noConfusion (show false = true from h) | (simp only [kRp, beq_iff_eq] at h; subst h; exact ⟨.str b, ⟨_, rfl⟩, fun c => by simp only [Rp]⟩)
  | .tup ds, u, h => by
    cases u with
    | ref a =>
      simp only [kRp] at h
      split at h
      · rename_i o e
        split at h
        · rename_i c its n e1 e2
          simp only [Bool.and_eq_true, decide_eq_true_eq] at h
          obtain ⟨⟨rfl, h2⟩, h3⟩ := h
          obtain ⟨vs, rv, hr⟩ := kRpL_ok ds its.toList h3
          refine ⟨.ref a, rfl, fun c => ?_⟩
          simp only [Rp]
          exact ⟨a, vs, rfl, .inr ⟨o, its, n, e, e1, e2, h2, rv⟩, hr c⟩
        · cases h
      · cases h
    | _ => exact Bool.noConfusion (show false = true from h)
  | .lst ds, u, h => by
    cases u with
    | ref a =>
      simp only [kRp] at h
      split at h
      · rename_i o e
        split at h
        · rename_i c its n e1 e0 e2
          simp only [Bool.and_eq_true, decide_eq_true_eq] at h
          obtain ⟨⟨rfl, h2⟩, h3⟩ := h
          obtain ⟨vs, rv, hr⟩ := kRpL_ok ds its.toList h3
          refine ⟨.ref a, rfl, fun c => ?_⟩
          simp only [Rp]
          exact ⟨a, vs, rfl, .inr ⟨o, its, n, e, e1, e0, e2, h2, rv⟩, hr c⟩
        · cases h
      · cases h
    | _ => exact Bool.noConfusion (show false = true from h)
  | .dict _, u, h => by cases u <;> exact Bool.noConfusion (show false = true from h)
  | .ref _, u, h => by cases u <;> exact Bool.noConfusion (show false = true from h)
theorem kRpL_ok {K : PySem.W.Frag} : ∀ (ds : List D) (us : List Value), kRpL K ds us = true → ∃ vs, Vals vs us ∧ ∀ c, RpL K c ds vs
  | [], us, h => by
    cases us with
    | nil => exact ⟨[], .nil, fun c => RpL.nil⟩
    | cons u us => exact Bool.noConfusion (show false = true from h)
  | d :: ds, us, h => by
    cases us with
    | nil => exact Bool.noConfusion (show false = true from h)
    | cons u us =>
      simp only [kRpL, Bool.and_eq_true] at h
      obtain ⟨v, r, hr⟩ := kRp_ok d u h.1
      obtain ⟨vs, rs, hrs⟩ := kRpL_ok ds us h.2
      exact ⟨v :: vs, .cons r rs, fun c => RpL.cons (hr c) (hrs c)⟩
end
/-- the constants stand -/
def constB (p : Prg) (K : PySem.W.Frag) : Bool := p.cs.all fun q => match PySem.W.nsIn K mainGlobals q.1 with
  | some (some u) => kRp K q.2 u
  | _ => false
/-! ### the whole program -/
/-- every def stands, every constant, every built-in name -/
structure PrgOk (p : Prg) (K : PySem.W.Frag) (mg : Str → Option Value) : Prop where
  fn : ∀ e ∈ p.es, ∃ f fd, Def K mg e.name e.st f fd ∧ fd.defaults = .none
  gc : ∀ q ∈ p.cs, ∃ v u, mg q.1 = some u ∧ RelV v u ∧ ∀ c, Rp K c q.2 v
  bf : ∀ x ∈ bltN, mg x = none
theorem prg_parts {p : Prg} (hc : p.chk = true) : ∀ e ∈ p.es, scC e.N e.ps (fnScope e.st) = true ∧ argsB (fnArgs e.st) e.ps = true ∧ e.ps.Nodup ∧ e.fn.np = e.ps.length ∧ e.fn.ns = e.N.length ∧ chkSs (p.tb e.N) (fnScope e.st) e.fn.body (fnBody e.st) = true := by
  intro e he
  have := List.all_eq_true.mp hc e he
  unfold Prg.chkF at this
  simp only [Bool.and_eq_true, decide_eq_true_eq] at this
  exact ⟨this.1.1.1.1.1, this.1.1.1.1.2, this.1.1.1.2, this.1.1.2, this.1.2, this.2⟩
theorem prg_args {p : Prg} (hc : p.chk = true) {e : FnE} (he : e ∈ p.es) {dV kV doc pm : Value} {an : Option Addr} {cdv ct : Value} (hd : dV = .none) {us : List Value} (hl : us.length = e.ps.length) :
    bindArgs (PySem.W.fnOf e.name e.name (fnArgs e.st) (fnBody e.st) (fnScope e.st) dV kV doc pm an cdv ct) ⟨us, []⟩ = pure (e.ps.zip us) := by
  obtain ⟨_, ha, nd, _⟩ := prg_parts hc e he
  unfold argsB at ha
  simp only [Bool.and_eq_true, decide_eq_true_eq, List.isEmpty_iff, Option.isNone_iff_eq_none] at ha
  exact bind_plain nd hl ha.1.1.1.1 ha.1.1.1.2 ha.1.1.2 ha.1.2 ha.2 hd
theorem prg_binds {p : Prg} {K : PySem.W.Frag} {mg : Str → Option Value} (hc : p.chk = true) : ∀ e ∈ p.es, ∀ f fd, Def K mg e.name e.st f fd → fd.defaults = .none → Binds K fd e.ps [] :=
  fun e he f fd D hd => D.fn.binds hd fun kV doc pm an cdv ct us hl => prg_args hc he rfl hl
theorem prg_fn {p : Prg} {P : Program} {w : World} {K : PySem.W.Frag} {mg : Str → Option Value} {base : Heap} {Wh n : Nat} (F : PrgOk p K mg) (hc : p.chk = true)
    (ih : ∀ (g : Nat) (e : FnE), p.es[g]? = some e → Cal P w K mg base n e.name (spM K (callF p.fns p.cds Wh n g)) []) {g : Nat} {e : FnE} (he : p.es[g]? = some e) {f : Addr} {fd : FuncData} (D : Def K mg e.name e.st f fd) :
    FnOk P w K mg base C8.CX0 (n + 1) f fd e.ps (spM K (callF p.fns p.cds Wh (n + 1) g)) := by
  have hm := List.mem_of_getElem? he
  obtain ⟨h1, _, _, h4, h5, h6⟩ := prg_parts hc e hm
  have S : FnScope e.N e.ps (fnScope e.st) := fnScope_by h1
  refine fn_ofM D.fn S (fn := e.fn) (by unfold Prg.fns; rw [List.getElem?_map, he]; rfl) h4 h5 fun cdv A outer s1 H E hr => ?_
  refine sndSs (tb := p.tb e.N) (n := n) (X := (cxOf C8.CX0 P w K mg base e.N e.name (fnScope e.st) f cdv A outer s1 H E).nox) ⟨⟨rfl, S.nd, rfl, hr, S.kind, fun g' x hx => ?_, fun g' x hx => ?_, fun x hx => F.bf x hx⟩, PassesOwn.never, fun x => rfl⟩ e.fn.body (fnBody e.st) h6
  · have hx' : (p.es.map (·.name))[g']? = some x := hx
    rw [List.getElem?_map] at hx'
    cases e' : p.es[g']? with
    | none => rw [e'] at hx'; cases hx'
    | some e2 =>
      rw [e'] at hx'
      cases hx'
      exact ⟨ih g' e2 e', fun ds s => callF_sl _ _ _ _ _ ds s⟩
  · have hx' : (p.cs.map (·.1))[g']? = some x := hx
    rw [List.getElem?_map] at hx'
    cases e' : p.cs[g']? with
    | none => rw [e'] at hx'; cases hx'
    | some q =>
      rw [e'] at hx'
      cases hx'
      obtain ⟨v, u, m, r, hr⟩ := F.gc q (List.mem_of_getElem? e')
      exact ⟨q.2, v, u, by show (p.cs.map (·.2))[g']? = _; rw [List.getElem?_map, e']; rfl, m, r, hr⟩
theorem prg_ok {p : Prg} {P : Program} {w : World} {K : PySem.W.Frag} {mg : Str → Option Value} {base : Heap} {Wh : Nat} (F : PrgOk p K mg) (hc : p.chk = true) : ∀ (n g : Nat) (e : FnE), p.es[g]? = some e → Cal P w K mg base n e.name (spM K (callF p.fns p.cds Wh n g)) [] := by
  intro n
  induction n with
  | zero =>
    intro g e he
    have hm := List.mem_of_getElem? he
    obtain ⟨f, fd, D, hd⟩ := F.fn e hm
    exact cal_zero D (prg_binds hc e hm f fd D hd)
  | succ n ih =>
    intro g e he
    have hm := List.mem_of_getElem? he
    obtain ⟨f, fd, D, hd⟩ := F.fn e hm
    exact cal_of D (prg_binds hc e hm f fd D hd) (prg_fn F hc ih he D)
/-! ### the head's facts -/
def FnE.dd (e : FnE) : He.DefD := ⟨(e.name, none), e.name, e.name, fnArgs e.st, fnBody e.st, fnScope e.st, [], []⟩
def Prg.dds (p : Prg) : List He.DefD := p.es.map FnE.dd
def Prg.fas (p : Prg) : List He.Fa := p.es.map (fun e => .glo e.name) ++ bltN.map .free
theorem prg_facts {p : Prg} {w : World} {K : PySem.W.Frag} {h h' : Heap} {mg : Str → Option Value} (X : K.In h) (G : h.Ns mainGlobals mg) (c : He.SaysX p.fas p.dds [] [] (constB p) w h' K) : PrgOk p K mg := by
  have d := c.t.d
  refine ⟨fun e he => ?_, fun q hq => ?_, fun x hx => ?_⟩
  · obtain ⟨fd, FD⟩ := d.defs (d := e.dd) (List.mem_map.mpr ⟨e, he, rfl⟩)
    obtain ⟨oc, od, dV, kV, doc, pm, an, cdv, ct, osl, rfl, lk, hcd, dfl, kwd⟩ := FD.ex
    have hg := He.glo_ok X G (d.facts (f := .glo e.name) (List.mem_append_left _ (List.mem_map.mpr ⟨e, he, rfl⟩)))
    refine ⟨_, _, ⟨⟨oc, od, dV, kV, doc, pm, an, cdv, ct, osl, rfl, lk, hcd⟩, hg, FD.kp⟩, ?_⟩
    rcases dfl with ⟨_, z⟩ | ⟨z, _⟩
    · exact z
    · exact (z rfl).elim
  · have := List.all_eq_true.mp c.more q hq
    split at this
    · rename_i u e
      obtain ⟨v, r, hr⟩ := kRp_ok q.2 u this
      exact ⟨v, u, PySem.W.mg_of X G e, r, hr⟩
    · cases this
  · exact He.free_ok X G (d.facts (f := .free x) (List.mem_append_right _ (List.mem_map.mpr ⟨x, hx, rfl⟩)))
/-- what the evaluator must say of the law -/
def LawOk (p : Prg) (Wh n g : Nat) : Prop := ∀ ns : List Int, ns.length ≤ 63 → ∃ s, callF p.fns p.cds Wh (n + 1) g [.lst (ns.map .int)] ⟨[], []⟩ = .ok (.bl true) s
theorem ints_rel {K : PySem.W.Frag} {c : Gh} : ∀ ns : List Int, RpL K c (ns.map .int) (ns.map V.int)
  | [] => RpL.nil
  | n :: ns => RpL.cons (by simp only [Rp]) (ints_rel ns)
/-- the law's end -/
theorem prg_walk {p : Prg} {l : PySem.W.OpenLaw} {Wh n g : Nat} {e : FnE} {q : Program} {loose : List Str} {XP : (Str → Option Value) → Heap → Prop} {d : DefRec} (hc : p.chk = true) (he : p.es[g]? = some e) (hps : e.ps = [("script" : Str)]) (hd : d.name = e.name) (hL : LawOk p Wh n g)
    (hn : l.most = some 63) (hdf : d.params.defaults = []) (hr : Room (n + 1) callerA) :
    PySem.W.WalkO q loose XP (fun w h => ∃ K : PySem.W.Frag, K.In h ∧ He.SaysX p.fas p.dds [] [] (constB p) w h K) l.row.toRowW d [] (fun f vs => PySem.call f vs) := by
  refine L2.walk_ofE (n := 63) (k := n + 1) (x := "script") (CX := C8.CX0) hn (by decide) hdf hr ?_ (fun _ _ _ _ z => z)
  rintro w mg fa h ⟨K, KX, c⟩ G hmg
  have F := prg_facts KX G c
  have hm := List.mem_of_getElem? he
  obtain ⟨f, fd, D, hdn⟩ := F.fn e hm
  have ef : f = fa := by
    have e1 := D.mgf
    rw [hd] at hmg
    rw [hmg] at e1
    cases e1
    rfl
  subst ef
  refine ⟨K, fd, spM K (callF p.fns p.cds Wh (n + 1) g), KX, fun s u => ?_, fun H a ns hl _ hS => ?_, fun base _ _ => ?_⟩
  · obtain ⟨oc, od, dV, kV, doc, pm, an, cdv, ct, osl, rfl, _⟩ := D.fn.ex
    have hb := prg_args hc hm (dV := dV) (kV := kV) (doc := doc) (pm := pm) (an := an) (cdv := cdv) (ct := ct) hdn (us := [u]) (by rw [hps]; rfl)
    rw [hps] at hb
    exact BindsTo.of_eq hb
  · obtain ⟨s, es⟩ := hL ns hl
    refine ⟨[], ⟨H, fun _ => none, []⟩, [.lst (ns.map .int)], ⟨fun _ _ z => z, fun _ _ z => (nomatch z), fun _ _ => rfl, rfl, fun i t z => (nomatch z), rfl, fun i t z => (nomatch z), fun a' k k' x => ?_⟩, RpL.one ?_, ?_⟩
    · cases k with
      | inl i => obtain ⟨⟨_, z⟩, _⟩ := x; simp at z
      | inr i => have x' : ([] : List Addr)[i]? = some a' := x; simp at x'
    · simp only [Rp]
      exact ⟨a, _, rfl, hS, ints_rel ns⟩
    · rw [es]
      exact sat_ok fun c' b H' _ _ rb => by simpa only [Rp] using rb
  · have r := prg_fn (P := l.prog) (w := w) (base := base) (Wh := Wh) F hc (prg_ok F hc n) he D
    rw [hps] at r
    exact r
end Pv

set_option maxRecDepth 100000
/-! Pv.W: what a step of the evaluator leads to, rules. -/
namespace Pw
open PySem Pv
def wpR {α : Type} (r : R α) (Q : α → S → Prop) : Prop := match r with
  | .ok a s => Q a s
  | _ => False
@[simp, simp ↓] theorem wpR_ok {α : Type} (a : α) (s : S) (Q : α → S → Prop) : wpR (.ok a s) Q = Q a s := id rfl
@[simp] theorem wpR_no {α : Type} (Q : α → S → Prop) : wpR (.no : R α) Q = False := id rfl
@[simp ↓] theorem wpR_bind {α β : Type} (r : R α) (f : α → S → R β) (Q : β → S → Prop) : wpR (r.bind f) Q = wpR r fun a s => wpR (f a s) Q := by cases r <;> rfl
@[simp] theorem wpR_ite {α : Type} (c : Prop) [Decidable c] (x y : R α) (Q : α → S → Prop) : wpR (if c then x else y) Q = if c then wpR x Q else wpR y Q := by split <;> rfl
theorem wpR_cg {α : Type} {r r' : R α} {Q : α → S → Prop} (h : r = r') : wpR r Q = wpR r' Q := by rw [h]
theorem bind_cg {α β : Type} {r r' : R α} {f : α → S → R β} (h : r = r') : r.bind f = r'.bind f := by rw [h]
theorem wpR_mono {α : Type} {r : R α} {Q Q' : α → S → Prop} (h : wpR r Q) (hq : ∀ a s, Q a s → Q' a s) : wpR r Q' := by
  cases r with
  | ok a s => exact hq a s h
  | ex x s => exact h
  | no => exact h
theorem eq_of_wpR {α : Type} {r : R α} {x : α} {t : S} (h : wpR r fun a s => a = x ∧ s = t) : r = .ok x t := by
  cases r with
  | ok a s => obtain ⟨rfl, rfl⟩ := h; rfl
  | ex x s => exact h.elim
  | no => exact h.elim
theorem wpR_of_eq {α : Type} {r : R α} {x : α} {t : S} {Q : α → S → Prop} (h : r = .ok x t) (hq : Q x t) : wpR r Q := by rw [h]; exact hq
theorem wpR_ex {α : Type} {r : R α} {Q : α → S → Prop} (h : wpR r Q) : ∃ a s, r = .ok a s ∧ Q a s := by
  cases r with
  | ok a s => exact ⟨a, s, rfl, h⟩
  | ex x s => exact h.elim
  | no => exact h.elim
theorem wpR_and {α : Type} {r : R α} {Q Q' : α → S → Prop} (h : wpR r Q) (h' : wpR r Q') : wpR r fun a s => Q a s ∧ Q' a s := by
  cases r with
  | ok a s => exact ⟨h, h'⟩
  | ex x s => exact h
  | no => exact h

/-! ### steps -/
section
variable {α β : Type}
@[simp, simp ↓] theorem bind_ok (a : α) (s : S) (f : α → S → R β) : (R.ok a s).bind f = f a s := id rfl
@[simp ↓] theorem bind_ap' (m : M α) (f : α → M β) (sl : List Sl) (sh : List D) : (m >>= f) ⟨sl, sh⟩ = (m ⟨sl, sh⟩).bind fun a s' => f a s' := id rfl
@[simp ↓] theorem pure_ap' (a : α) (sl : List Sl) (sh : List D) : (Pure.pure a : M α) ⟨sl, sh⟩ = .ok a ⟨sl, sh⟩ := id rfl
@[simp] theorem stuck_ap (s : S) : (stuck : M α) s = .no := id rfl
@[simp] theorem ofO_some_ap (a : α) (s : S) : ofO (some a) s = .ok a s := id rfl
@[simp] theorem ofO_none_ap (s : S) : ofO (none : Option α) s = .no := id rfl
@[simp ↓] theorem ite_ap (c : Prop) [Decidable c] (m m' : M α) (sl : List Sl) (sh : List D) : (if c then m else m') ⟨sl, sh⟩ = if c then m ⟨sl, sh⟩ else m' ⟨sl, sh⟩ := by split <;> rfl
end
@[simp] theorem asBl_ap (b : Bool) (s : S) : asBl (.bl b) s = .ok b s := id rfl
@[simp] theorem negM_ap (i : Int) (s : S) : negM (.int i) s = .ok (.int (-i)) s := id rfl
@[simp] theorem invM_ap (i : Int) (s : S) : invM (.int i) s = .ok (.int (Builtin.bitNot i)) s := id rfl
@[simp] theorem optM_ap (i : Int) (s : S) : optM (.int i) s = .ok (some i) s := id rfl
@[simp] theorem getP_dv (d : D) (s : S) : getP (.dv d) s = .ok d s := id rfl
@[simp] theorem getPs_nil (s : S) : getPs [] s = .ok [] s := id rfl
@[simp] theorem getPs_cons (p : P) (ps : List P) (s : S) : getPs (p :: ps) s = (getP p s).bind fun d s => (getPs ps s).bind fun ds s => .ok (d :: ds) s := id rfl
/-- a state's parts, written out -/
theorem rdF_fz {i : Nat} {sl : List Sl} {sh : List D} {d : D} (h : sl[i]? = some (.fz d)) : rdF i ⟨sl, sh⟩ = .ok d ⟨sl, sh⟩ := by
  unfold rdF; rw [show (S.mk sl sh).sl[i]? = some (.fz d) from h]

/-! ### blocks -/
theorem wipe_len (vs : List Nat) (sl : List Sl) : (wipeS sl vs).length = sl.length := by
  induction vs with
  | nil => rfl
  | cons v vs ih => show ((wipeS sl vs).set v .un).length = _; rw [List.length_set, ih]
theorem wipe_get (vs : List Nat) (sl : List Sl) (j : Nat) : (wipeS sl vs)[j]? = if j ∈ vs ∧ j < sl.length then some .un else sl[j]? := by
  induction vs with
  | nil => simp [wipeS]
  | cons v vs ih =>
    show ((wipeS sl vs).set v .un)[j]? = _
    rw [List.getElem?_set, ih, wipe_len]
    by_cases h : v = j
    · subst h
      by_cases h2 : v < sl.length
      · simp [h2]
      · simp [h2]
    · rw [if_neg h]
      have : (j ∈ v :: vs) ↔ j ∈ vs := by simp [List.mem_cons, Ne.symm h]
      simp only [this]
theorem back_len (vs : List Nat) (old new : List Sl) : (backS old new vs).length = new.length := by
  induction vs with
  | nil => rfl
  | cons v vs ih => show ((backS old new vs).set v _).length = _; rw [List.length_set, ih]
theorem back_get (vs : List Nat) (old new : List Sl) (j : Nat) : (backS old new vs)[j]? = if j ∈ vs ∧ j < new.length then some (old.getD j .un) else new[j]? := by
  induction vs with
  | nil => simp [backS]
  | cons v vs ih =>
    show ((backS old new vs).set v (old.getD v .un))[j]? = _
    rw [List.getElem?_set, ih, back_len]
    by_cases h : v = j
    · subst h
      by_cases h2 : v < new.length
      · simp [h2]
      · simp [h2]
    · rw [if_neg h]
      have : (j ∈ v :: vs) ↔ j ∈ vs := by simp [List.mem_cons, Ne.symm h]
      simp only [this]
theorem back_wipe {vs : List Nat} {sl sl' : List Sl} (h : wipeS sl' vs = wipeS sl vs) : backS sl sl' vs = sl := by
  have hl : sl'.length = sl.length := by rw [← wipe_len vs sl', ← wipe_len vs sl, h]
  refine List.ext_getElem? fun j => ?_
  have e : (wipeS sl' vs)[j]? = (wipeS sl vs)[j]? := by rw [h]
  rw [wipe_get, wipe_get, hl] at e
  rw [back_get, hl]
  by_cases hj : j ∈ vs ∧ j < sl.length
  · rw [if_pos hj, List.getD_eq_getElem?_getD, List.getElem?_eq_getElem hj.2]; rfl
  · rw [if_neg hj] at e ⊢
    rw [if_neg hj] at e
    exact e
theorem wipe_wipe {vs : List Nat} {sl sl' : List Sl} (h : wipeS sl' vs = wipeS sl vs) : wipeS (wipeS sl vs) vs = wipeS sl vs := by
  refine List.ext_getElem? fun j => ?_
  rw [wipe_get, wipe_len, wipe_get]
  by_cases hj : j ∈ vs ∧ j < sl.length
  · rw [if_pos hj, if_pos hj]
  · rw [if_neg hj, if_neg hj]

def NO : Sl → Bool
  | .ow _ => false
  | _ => true
theorem noOwn1 {sl : List Sl} {v : Nat} {x : Sl} (h : sl[v]? = some x) (hx : NO x = true) : noOwn sl [v] = true := by
  unfold noOwn
  rw [List.all_cons, h]
  cases x with
  | ow d => cases hx
  | _ => rfl
section
variable {α : Type}
/-- the turns of a block that changes nothing else -/
theorem compL_pure {vs : List Nat} {turn : D → M (Option D)} {enc : α → D} {g : α → Option D} {sl : List Sl} {sh : List D} : ∀ (xs : List α)
    (ht : ∀ x ∈ xs, wpR (turn (enc x) ⟨wipeS sl vs, sh⟩) fun o s' => o = g x ∧ s'.sh = sh ∧ wipeS s'.sl vs = wipeS sl vs) (sl0 : List Sl) (h0 : wipeS sl0 vs = wipeS sl vs),
    ∃ sl', compL (fun d s => turn d { s with sl := wipeS s.sl vs }) (xs.map enc) ⟨sl0, sh⟩ = .ok (xs.filterMap g) ⟨sl', sh⟩ ∧ wipeS sl' vs = wipeS sl vs
  | [], _, sl0, h0 => ⟨sl0, rfl, h0⟩
  | x :: xs, ht, sl0, h0 => by
    obtain ⟨o, s', e, rfl, h2, h3⟩ := wpR_ex (ht x (by simp))
    obtain ⟨sl2, e2, h4⟩ := compL_pure xs (fun y hy => ht y (by simp [hy])) s'.sl h3
    refine ⟨sl2, ?_, h4⟩
    show R.bind (turn (enc x) ⟨wipeS sl0 vs, sh⟩) _ = _
    rw [h0, e]
    show R.bind (compL _ (xs.map enc) s') _ = _
    have : s' = ⟨s'.sl, sh⟩ := by rw [← h2]
    rw [this, e2]
    show R.ok _ _ = _
    cases hg : g x with
    | none => rw [List.filterMap_cons_none hg]
    | some y => rw [List.filterMap_cons_some hg]
theorem comp_pure {vs : List Nat} {turn : D → M (Option D)} {enc : α → D} {g : α → Option D} {sl : List Sl} {sh : List D} {xs : List α} (h0 : noOwn sl vs = true) (hl : xs.length ≤ sizeLine)
    (ht : ∀ x ∈ xs, wpR (turn (enc x) ⟨wipeS sl vs, sh⟩) fun o s' => o = g x ∧ s'.sh = sh ∧ wipeS s'.sl vs = wipeS sl vs) :
    compM vs turn (xs.map enc) ⟨sl, sh⟩ = .ok (.lst (xs.filterMap g)) ⟨sl, sh⟩ := by
  obtain ⟨sl', e, h⟩ := compL_pure (turn := turn) xs ht sl rfl
  unfold compM
  rw [if_pos h0, e]
  show (if lenOk (xs.filterMap g) = true then _ else _) = _
  rw [if_pos (by unfold lenOk; exact decide_eq_true (Nat.le_trans (List.length_filterMap_le _ _) hl))]
  show R.ok _ _ = _
  rw [back_wipe h]
theorem comp_map {vs : List Nat} {turn : D → M (Option D)} {enc : α → D} {g : α → D} {sl : List Sl} {sh : List D} {xs : List α} (h0 : noOwn sl vs = true) (hl : xs.length ≤ sizeLine)
    (ht : ∀ x ∈ xs, wpR (turn (enc x) ⟨wipeS sl vs, sh⟩) fun o s' => o = some (g x) ∧ s'.sh = sh ∧ wipeS s'.sl vs = wipeS sl vs) :
    compM vs turn (xs.map enc) ⟨sl, sh⟩ = .ok (.lst (xs.map g)) ⟨sl, sh⟩ := by
  rw [comp_pure (g := fun x => some (g x)) h0 hl ht, List.filterMap_eq_map']
theorem filterMap_if {β : Type} (p : α → Bool) (g : α → β) : ∀ xs : List α, xs.filterMap (fun x => if p x = true then some (g x) else none) = (xs.filter p).map g
  | [] => rfl
  | x :: xs => by
    rw [List.filterMap_cons, List.filter_cons]
    by_cases h : p x = true
    · simp [h, filterMap_if p g xs]
    · simp [h, filterMap_if p g xs]
theorem comp_filter {vs : List Nat} {turn : D → M (Option D)} {enc : α → D} {p : α → Bool} {g : α → D} {sl : List Sl} {sh : List D} {xs : List α} (h0 : noOwn sl vs = true) (hl : xs.length ≤ sizeLine)
    (ht : ∀ x ∈ xs, wpR (turn (enc x) ⟨wipeS sl vs, sh⟩) fun o s' => o = (if p x = true then some (g x) else none) ∧ s'.sh = sh ∧ wipeS s'.sl vs = wipeS sl vs) :
    compM vs turn (xs.map enc) ⟨sl, sh⟩ = .ok (.lst ((xs.filter p).map g)) ⟨sl, sh⟩ := by
  rw [comp_pure (g := fun x => if p x = true then some (g x) else none) h0 hl ht, filterMap_if]
/-- a block whose turns change the shared things -/
theorem compL_inv {vs : List Nat} {turn : D → M (Option D)} {sl : List Sl} {J : List D → Prop} {G : D → Option D → Prop} : ∀ (items : List D)
    (ht : ∀ d ∈ items, ∀ sh, J sh → wpR (turn d ⟨wipeS sl vs, sh⟩) fun o s' => G d o ∧ J s'.sh ∧ wipeS s'.sl vs = wipeS sl vs) (sl0 : List Sl) (h0 : wipeS sl0 vs = wipeS sl vs) (sh : List D) (hj : J sh),
    ∃ os sl' sh', compL (fun d s => turn d { s with sl := wipeS s.sl vs }) items ⟨sl0, sh⟩ = .ok (os.filterMap id) ⟨sl', sh'⟩ ∧ J sh' ∧ wipeS sl' vs = wipeS sl vs ∧ os.length = items.length ∧ ∀ q ∈ items.zip os, G q.1 q.2
  | [], _, sl0, h0, sh, hj => ⟨[], sl0, sh, rfl, hj, h0, rfl, fun q hq => by cases hq⟩
  | d :: items, ht, sl0, h0, sh, hj => by
    obtain ⟨o, s', e, h1, h2, h3⟩ := wpR_ex (ht d (by simp) sh hj)
    obtain ⟨os, sl2, sh2, e2, h4, h5, h6, h7⟩ := compL_inv items (fun y hy => ht y (by simp [hy])) s'.sl h3 s'.sh h2
    refine ⟨o :: os, sl2, sh2, ?_, h4, h5, by simp [h6], fun q hq => ?_⟩
    · show R.bind (turn d ⟨wipeS sl0 vs, sh⟩) _ = _
      rw [h0, e]
      show R.bind (compL _ items ⟨s'.sl, s'.sh⟩) _ = _
      rw [e2]
      show R.ok _ _ = _
      cases o with
      | none => rfl
      | some y => rfl
    · rw [List.zip_cons_cons] at hq
      rcases List.mem_cons.mp hq with rfl | hq
      · exact h1
      · exact h7 q hq
theorem comp_inv {vs : List Nat} {turn : D → M (Option D)} {sl : List Sl} {J : List D → Prop} {G : D → Option D → Prop} {items : List D} {sh : List D} {Q : D → S → Prop} (h0 : noOwn sl vs = true) (hl : items.length ≤ sizeLine) (hj : J sh)
    (ht : ∀ d ∈ items, ∀ sh, J sh → wpR (turn d ⟨wipeS sl vs, sh⟩) fun o s' => G d o ∧ J s'.sh ∧ wipeS s'.sl vs = wipeS sl vs)
    (hq : ∀ os sh', J sh' → os.length = items.length → (∀ q ∈ items.zip os, G q.1 q.2) → Q (.lst (os.filterMap id)) ⟨sl, sh'⟩) :
    wpR (compM vs turn items ⟨sl, sh⟩) Q := by
  obtain ⟨os, sl', sh', e, h1, h2, h3, h4⟩ := compL_inv (turn := turn) items ht sl rfl sh hj
  unfold compM
  rw [if_pos h0, e]
  show wpR (if lenOk (os.filterMap id) = true then _ else _) Q
  rw [if_pos (by unfold lenOk; exact decide_eq_true (Nat.le_trans (List.length_filterMap_le _ _) (h3 ▸ hl)))]
  show Q _ _
  rw [back_wipe h2]
  exact hq os sh' h1 h3 h4
end
/-- which of the things a block with a draw leaves -/
theorem sub_of_opts {α : Type} {enc : α → D} : ∀ {xs : List α} {os : List (Option D)}, os.length = xs.length → (∀ q ∈ (xs.map enc).zip os, q.2 = none ∨ q.2 = some q.1) → ∃ ys, List.Sublist ys xs ∧ os.filterMap id = ys.map enc
  | [], [], _, _ => ⟨[], .slnil, rfl⟩
  | [], o :: os, h, _ => by cases h
  | x :: xs, [], h, _ => by cases h
  | x :: xs, o :: os, h, hq => by
    obtain ⟨ys, hs, e⟩ := sub_of_opts (xs := xs) (os := os) (by simpa using h) fun q hq' => hq q (by rw [List.map_cons, List.zip_cons_cons]; exact List.mem_cons_of_mem _ hq')
    have h1 : o = none ∨ o = some (enc x) := hq (enc x, o) (by rw [List.map_cons, List.zip_cons_cons]; exact List.mem_cons_self)
    rcases h1 with rfl | rfl
    · exact ⟨ys, hs.cons _, e⟩
    · exact ⟨x :: ys, hs.cons₂ _, by show enc x :: os.filterMap id = _; rw [e]; rfl⟩

/-! ### loops -/
def flQ (nx : S → Prop) (Q : Fl → S → Prop) : Fl → S → Prop
  | .nx, s => nx s
  | .ct, s => nx s
  | .bk, s => Q .nx s
  | .rt x, s => Q (.rt x) s
@[simp, simp ↓] theorem flQ_nx (nx : S → Prop) (Q : Fl → S → Prop) (s : S) : flQ nx Q .nx s = nx s := id rfl
@[simp, simp ↓] theorem flQ_ct (nx : S → Prop) (Q : Fl → S → Prop) (s : S) : flQ nx Q .ct s = nx s := id rfl
@[simp, simp ↓] theorem flQ_bk (nx : S → Prop) (Q : Fl → S → Prop) (s : S) : flQ nx Q .bk s = Q .nx s := id rfl
@[simp, simp ↓] theorem flQ_rt (nx : S → Prop) (Q : Fl → S → Prop) (x : D) (s : S) : flQ nx Q (.rt x) s = Q (.rt x) s := id rfl
theorem flQ_cg {nx : S → Prop} {Q : Fl → S → Prop} {k k' : Fl} {s : S} (h : k = k') : flQ nx Q k s = flQ nx Q k' s := by rw [h]
section
variable {α : Type}
/-- a for loop: what holds behind the part taken -/
theorem for_inv {f : D → M Fl} {enc : α → D} {I : List α → S → Prop} {Q : Fl → S → Prop} : ∀ (pre : List α) {post : List α} {s : S} (h : I pre s)
    (ht : ∀ p x q s, p ++ x :: q = pre ++ post → I p s → wpR (f (enc x) s) (flQ (I (p ++ [x])) Q)) (he : ∀ s, I (pre ++ post) s → Q .nx s), wpR (forL f (post.map enc) s) Q
  | pre, [], s, h, ht, he => by
    rw [List.append_nil] at he
    exact he s h
  | pre, x :: post, s, h, ht, he => by
    show wpR (R.bind (f (enc x) s) _) Q
    rw [wpR_bind]
    refine wpR_mono (ht pre x post s rfl h) fun k s' hk => ?_
    cases k with
    | nx => exact for_inv (pre ++ [x]) hk (fun p y q t e i => ht p y q t (by rw [e]; simp) i) (fun s hs => he s (by simpa using hs))
    | ct => exact for_inv (pre ++ [x]) hk (fun p y q t e i => ht p y q t (by rw [e]; simp) i) (fun s hs => he s (by simpa using hs))
    | bk => exact hk
    | rt d => exact hk
theorem for_rule {f : D → M Fl} {enc : α → D} (I : List α → S → Prop) {Q : Fl → S → Prop} {xs : List α} {s : S} (h : I [] s)
    (ht : ∀ p x q s, p ++ x :: q = xs → I p s → wpR (f (enc x) s) (flQ (I (p ++ [x])) Q)) (he : ∀ s, I xs s → Q .nx s) : wpR (forL f (xs.map enc) s) Q :=
  for_inv [] h ht he
/-- a for loop with what always holds -/
theorem for_each {f : D → M Fl} {enc : α → D} (I : S → Prop) {Q : Fl → S → Prop} {xs : List α} {s : S} (h : I s)
    (ht : ∀ x ∈ xs, ∀ s, I s → wpR (f (enc x) s) (flQ I Q)) (he : ∀ s, I s → Q .nx s) : wpR (forL f (xs.map enc) s) Q :=
  for_rule (fun _ => I) h (fun p x q s e i => ht x (by rw [← e]; simp) s i) he
end
/-- a while loop: a measure falls -/
theorem whl_rule {c : M Bool} {b : M Fl} (I : Nat → S → Prop) {Q : Fl → S → Prop} (ht : ∀ k s, I k s → wpR (c s) fun r s' => if r = true then ∃ k', k' < k ∧ ∀ Q', (∀ s, I k' s → Q' s) → wpR (b s') (flQ Q' Q) else Q .nx s') :
    ∀ (n k : Nat) (s : S), k < n → I k s → wpR (whlL c b n s) Q
  | 0, k, s, h, _ => absurd h (Nat.not_lt_zero k)
  | n + 1, k, s, h, i => by
    show wpR (R.bind (c s) _) Q
    rw [wpR_bind]
    refine wpR_mono (ht k s i) fun r s' hr => ?_
    cases r with
    | false =>
      rw [if_neg (by decide)] at hr
      exact hr
    | true =>
      rw [if_pos rfl] at hr
      obtain ⟨k', hk, hb⟩ := hr
      show wpR (R.bind (b s') _) Q
      rw [wpR_bind]
      refine wpR_mono (hb (I k') fun s hs => hs) fun k2 s2 h2 => ?_
      cases k2 with
      | nx => exact whl_rule I ht n k' s2 (by omega) h2
      | ct => exact whl_rule I ht n k' s2 (by omega) h2
      | bk => exact h2
      | rt d => exact h2

/-! ### statements, calls -/
def seqQ (nx : S → Prop) (Q : Fl → S → Prop) : Fl → S → Prop
  | .nx, s => nx s
  | .rt x, s => Q (.rt x) s
  | .bk, s => Q .bk s
  | .ct, s => Q .ct s
@[simp, simp ↓] theorem seqQ_nx (nx : S → Prop) (Q : Fl → S → Prop) (s : S) : seqQ nx Q .nx s = nx s := id rfl
@[simp, simp ↓] theorem seqQ_ct (nx : S → Prop) (Q : Fl → S → Prop) (s : S) : seqQ nx Q .ct s = Q .ct s := id rfl
@[simp, simp ↓] theorem seqQ_bk (nx : S → Prop) (Q : Fl → S → Prop) (s : S) : seqQ nx Q .bk s = Q .bk s := id rfl
@[simp, simp ↓] theorem seqQ_rt (nx : S → Prop) (Q : Fl → S → Prop) (x : D) (s : S) : seqQ nx Q (.rt x) s = Q (.rt x) s := id rfl
theorem seqQ_cg {nx : S → Prop} {Q : Fl → S → Prop} {k k' : Fl} {s : S} (h : k = k') : seqQ nx Q k s = seqQ nx Q k' s := by rw [h]
@[simp ↓] theorem wp_nil (cf : Cf) (W : Nat) (sl : List Sl) (sh : List D) (Q : Fl → S → Prop) : wpR (evSs cf W .nil ⟨sl, sh⟩) Q = Q .nx ⟨sl, sh⟩ := id rfl
@[simp ↓] theorem wp_cons (cf : Cf) (W : Nat) (t : IS) (ts : ISs) (sl : List Sl) (sh : List D) (Q : Fl → S → Prop) : wpR (evSs cf W (.cons t ts) ⟨sl, sh⟩) Q = wpR (evS cf W t ⟨sl, sh⟩) (seqQ (fun s => wpR (evSs cf W ts s) Q) Q) := by
  show wpR (R.bind (evS cf W t _) _) Q = _
  rw [wpR_bind]
  congr 1
  funext k s'
  cases k <;> rfl
def bkQ (sl : List Sl) (Q : D → S → Prop) : Fl → S → Prop
  | .nx, s => Q .non ⟨sl, s.sh⟩
  | .rt d, s => Q d ⟨sl, s.sh⟩
  | .bk, _ => False
  | .ct, _ => False
@[simp, simp ↓] theorem bkQ_nx (sl : List Sl) (Q : D → S → Prop) (s : S) : bkQ sl Q .nx s = Q .non ⟨sl, s.sh⟩ := id rfl
@[simp, simp ↓] theorem bkQ_rt (sl : List Sl) (Q : D → S → Prop) (d : D) (s : S) : bkQ sl Q (.rt d) s = Q d ⟨sl, s.sh⟩ := id rfl
theorem bkQ_cg {sl : List Sl} {Q : D → S → Prop} {k k' : Fl} {s : S} (h : k = k') : bkQ sl Q k s = bkQ sl Q k' s := by rw [h]
@[simp ↓] theorem wp_backF (sl : List Sl) (r : R Fl) (Q : D → S → Prop) : wpR (backF sl r) Q = wpR r (bkQ sl Q) := by
  cases r with
  | ok k s => cases k <;> rfl
  | ex x s => rfl
  | no => rfl
theorem callF_at {fns : List Fn} {cs : List D} {W n g : Nat} {args : List D} {s : S} {fd : Fn} (h : fns[g]? = some fd) (ha : args.length = fd.np ∧ fd.np ≤ fd.ns) :
    callF fns cs W (n + 1) g args s = backF s.sl (evSs ⟨callF fns cs W n, cs⟩ W fd.body ⟨args.map .fz ++ List.replicate (fd.ns - fd.np) .un, s.sh⟩) := by
  show (match fns[g]? with | some fd => _ | none => _) = _
  rw [h]
  exact if_pos ha
end Pw

set_option maxRecDepth 100000
/-! Pv.X: the evaluator, step by step, for simp. -/
namespace Pw
open PySem Pv
section
variable (cf : Cf) (W : Nat) (sl : List Sl) (sh : List D)
@[simp ↓] theorem x_loc (i : Nat) : evE cf (.loc i) ⟨sl, sh⟩ = rdF i ⟨sl, sh⟩ := id rfl
@[simp ↓] theorem x_con (d : D) : evE cf (.con d) ⟨sl, sh⟩ = .ok d ⟨sl, sh⟩ := id rfl
@[simp ↓] theorem x_glob (g : Nat) : evE cf (.glob g) ⟨sl, sh⟩ = ofO cf.cs[g]? ⟨sl, sh⟩ := id rfl
@[simp ↓] theorem x_tup (es : IEs) : evE cf (.tup es) ⟨sl, sh⟩ = (evEs cf es ⟨sl, sh⟩).bind fun ds s => ofO (mkT ds) s := id rfl
@[simp ↓] theorem x_lst (es : IEs) : evE cf (.lst es) ⟨sl, sh⟩ = (evEs cf es ⟨sl, sh⟩).bind fun ds s => ofO (mkL ds) s := id rfl
@[simp ↓] theorem x_shl (es : IEs) : evE cf (.shl es) ⟨sl, sh⟩ = (evEs cf es ⟨sl, sh⟩).bind fun ds s => shlM ds s := id rfl
@[simp ↓] theorem x_bin (op : Operator) (a b : IE) : evE cf (.bin op a b) ⟨sl, sh⟩ = (peek a.slot? (evE cf a) ⟨sl, sh⟩).bind fun p s => (peek b.slot? (evE cf b) s).bind fun q s => (getP p s).bind fun x s => (getP q s).bind fun y s => ofO (binD op x y) s := id rfl
@[simp ↓] theorem x_neg (a : IE) : evE cf (.neg a) ⟨sl, sh⟩ = (evE cf a ⟨sl, sh⟩).bind fun x s => negM x s := id rfl
@[simp ↓] theorem x_inv (a : IE) : evE cf (.inv a) ⟨sl, sh⟩ = (evE cf a ⟨sl, sh⟩).bind fun x s => invM x s := id rfl
@[simp ↓] theorem x_not (a : IE) : evE cf (.not a) ⟨sl, sh⟩ = ((evE cf a ⟨sl, sh⟩).bind fun x s => asBl x s).bind fun b s => .ok (.bl (!b)) s := id rfl
@[simp ↓] theorem x_cmp (op : CmpOp) (a b : IE) : evE cf (.cmp op a b) ⟨sl, sh⟩ = (peek a.slot? (evE cf a) ⟨sl, sh⟩).bind fun p s => (peek b.slot? (evE cf b) s).bind fun q s => (getP p s).bind fun x s => (getP q s).bind fun y s => ofO ((cmpD op x y).map .bl) s := id rfl
@[simp ↓] theorem x_chain (op op' : CmpOp) (a b c : IE) : evE cf (.chain op op' a b c) ⟨sl, sh⟩ = (evE cf a ⟨sl, sh⟩).bind fun x s => (evE cf b s).bind fun y s => (ofO (cmpD op x y) s).bind fun k s => (if k then evE cf c >>= fun z => ofO ((cmpD op' y z).map .bl) else Pure.pure (.bl false)) s := id rfl
@[simp ↓] theorem x_and (a b : IE) : evE cf (.and a b) ⟨sl, sh⟩ = ((evE cf a ⟨sl, sh⟩).bind fun x s => asBl x s).bind fun k s => (if k then evE cf b >>= asBl >>= fun k' => Pure.pure (.bl k') else Pure.pure (.bl false)) s := id rfl
@[simp ↓] theorem x_or (a b : IE) : evE cf (.or a b) ⟨sl, sh⟩ = ((evE cf a ⟨sl, sh⟩).bind fun x s => asBl x s).bind fun k s => (if k then Pure.pure (.bl true) else evE cf b >>= asBl >>= fun k' => Pure.pure (.bl k')) s := id rfl
@[simp ↓] theorem x_ite (c a b : IE) : evE cf (.ite c a b) ⟨sl, sh⟩ = ((evE cf c ⟨sl, sh⟩).bind fun x s => asBl x s).bind fun k s => (if k then evE cf a else evE cf b) s := id rfl
@[simp ↓] theorem x_idx (a i : IE) : evE cf (.idx a i) ⟨sl, sh⟩ = (peek a.slot? (evE cf a) ⟨sl, sh⟩).bind fun p s => (evE cf i s).bind fun k s => (getP p s).bind fun x s => idxM x k s := id rfl
@[simp ↓] theorem x_slc (a : IE) (lo hi : IO) : evE cf (.slc a lo hi) ⟨sl, sh⟩ = (peek a.slot? (evE cf a) ⟨sl, sh⟩).bind fun p s => (evO cf lo s).bind fun l s => (evO cf hi s).bind fun h s => (getP p s).bind fun x s => ofO (slcD l h x) s := id rfl
@[simp ↓] theorem x_rev (a : IE) : evE cf (.rev a) ⟨sl, sh⟩ = (peek a.slot? (evE cf a) ⟨sl, sh⟩).bind fun p s => (getP p s).bind fun x s => ofO (revD x) s := id rfl
@[simp ↓] theorem x_comp (elt : IE) (tg : Tg) (it : IT) (cond : IO) (vs : List Nat) : evE cf (.comp elt tg it cond vs) ⟨sl, sh⟩ = (evT cf it ⟨sl, sh⟩).bind fun items s => compM vs (turnM (bindM tg) (evC cf cond) (evE cf elt)) items s := id rfl
@[simp ↓] theorem x_call (f : Nat) (es : IEs) : evE cf (.call f es) ⟨sl, sh⟩ = (evEs cf es ⟨sl, sh⟩).bind fun ds s => cf.call f ds s := id rfl
@[simp ↓] theorem x_bi (b : Bi) (es : IEs) : evE cf (.bi b es) ⟨sl, sh⟩ = (evPs cf es ⟨sl, sh⟩).bind fun ps s => (getPs ps s).bind fun ds s => ofO (biD b ds) s := id rfl
@[simp ↓] theorem x_pop (i : Nat) : evE cf (.pop i) ⟨sl, sh⟩ = popM i ⟨sl, sh⟩ := id rfl
@[simp ↓] theorem x_popAt (i : Nat) (e : IE) : evE cf (.popAt i e) ⟨sl, sh⟩ = (ownM i ⟨sl, sh⟩).bind fun _ s => (evE cf e s).bind fun d s => popAtD i d s := id rfl
@[simp ↓] theorem xs_nil : evEs cf .nil ⟨sl, sh⟩ = .ok [] ⟨sl, sh⟩ := id rfl
@[simp ↓] theorem xs_cons (e : IE) (es : IEs) : evEs cf (.cons e es) ⟨sl, sh⟩ = (evE cf e ⟨sl, sh⟩).bind fun d s => (evEs cf es s).bind fun ds s => .ok (d :: ds) s := id rfl
@[simp ↓] theorem xp_nil : evPs cf .nil ⟨sl, sh⟩ = .ok [] ⟨sl, sh⟩ := id rfl
@[simp ↓] theorem xp_cons (e : IE) (es : IEs) : evPs cf (.cons e es) ⟨sl, sh⟩ = (peek e.slot? (evE cf e) ⟨sl, sh⟩).bind fun d s => (evPs cf es s).bind fun ds s => .ok (d :: ds) s := id rfl
@[simp ↓] theorem xo_none : evO cf .none ⟨sl, sh⟩ = .ok none ⟨sl, sh⟩ := id rfl
@[simp ↓] theorem xo_some (e : IE) : evO cf (.some e) ⟨sl, sh⟩ = (evE cf e ⟨sl, sh⟩).bind fun x s => optM x s := id rfl
@[simp ↓] theorem xc_none : evC cf .none ⟨sl, sh⟩ = .ok true ⟨sl, sh⟩ := id rfl
@[simp ↓] theorem xc_some (e : IE) : evC cf (.some e) ⟨sl, sh⟩ = (evE cf e ⟨sl, sh⟩).bind fun x s => asBl x s := id rfl
@[simp ↓] theorem xt_each (e : IE) : evT cf (.each e) ⟨sl, sh⟩ = (evE cf e ⟨sl, sh⟩).bind fun d s => ofO (walkD d) s := id rfl
@[simp ↓] theorem xt_rng1 (e : IE) : evT cf (.rng1 e) ⟨sl, sh⟩ = (evE cf e ⟨sl, sh⟩).bind fun d s => rng1M d s := id rfl
@[simp ↓] theorem xt_rng2 (a b : IE) : evT cf (.rng2 a b) ⟨sl, sh⟩ = (evE cf a ⟨sl, sh⟩).bind fun x s => (evE cf b s).bind fun y s => rng2M x y s := id rfl
@[simp ↓] theorem xt_enum (e : IE) : evT cf (.enum e) ⟨sl, sh⟩ = (evE cf e ⟨sl, sh⟩).bind fun d s => ofO ((walkD d).map enumD) s := id rfl
@[simp ↓] theorem xt_zip (a b : IE) : evT cf (.zip a b) ⟨sl, sh⟩ = (evE cf a ⟨sl, sh⟩).bind fun x s => (evE cf b s).bind fun y s => ofO (zipW x y) s := id rfl
@[simp ↓] theorem xS_set (i : Nat) (e : IE) : evS cf W (.set i e) ⟨sl, sh⟩ = (evE cf e ⟨sl, sh⟩).bind fun d s => (setSl i (.fz d) s).bind fun _ s => .ok .nx s := id rfl
@[simp ↓] theorem xS_own (i : Nat) (e : IE) : evS cf W (.own i e) ⟨sl, sh⟩ = (evE cf e ⟨sl, sh⟩).bind fun d s => (ofO (mkSl true e.fresh d) s).bind fun x s => (setSl i x s).bind fun _ s => .ok .nx s := id rfl
@[simp ↓] theorem xS_unp (ts : List Tg) (e : IE) : evS cf W (.unp ts e) ⟨sl, sh⟩ = (evE cf e ⟨sl, sh⟩).bind fun d s => (bindM (.tp ts) d s).bind fun _ s => .ok .nx s := id rfl
@[simp ↓] theorem x_dget (i : Nat) (k x : IE) : evE cf (.dget i k x) ⟨sl, sh⟩ = (dicM i ⟨sl, sh⟩).bind fun _ s => (evE cf k s).bind fun y s => (evE cf x s).bind fun z s => dgetM i y z s := id rfl
@[simp ↓] theorem xS_nw (i : Nat) (t : Bool) : evS cf W (.dic (.nw i t)) ⟨sl, sh⟩ = (setSl i (.ow (.dict [(.bl t, .non)])) ⟨sl, sh⟩).bind fun _ s => .ok .nx s := id rfl
@[simp ↓] theorem xS_mk (i : Nat) (e : IE) : evS cf W (.dic (.mk i e)) ⟨sl, sh⟩ = (evE cf e ⟨sl, sh⟩).bind fun d s => (ofO (dMake d) s).bind fun z s => (setSl i (.ow z) s).bind fun _ s => .ok .nx s := by
  show (((evE cf e ⟨sl, sh⟩).bind fun d s => (ofO (dMake d) s).bind fun z s => (.ok (.ow z) s : R Sl)).bind fun x s => (setSl i x s).bind fun _ s => .ok Fl.nx s) = _
  cases evE cf e ⟨sl, sh⟩ with
  | ok d s =>
    simp only [R.bind]
    cases dMake d <;> rfl
  | ex x s => rfl
  | no => rfl
@[simp ↓] theorem xS_pfo (i j : Nat) (e f : IE) : evS cf W (.par [.fz i e, .ow j f]) ⟨sl, sh⟩ = (evE cf e ⟨sl, sh⟩).bind fun d s => (evE cf f s).bind fun z s => (ofO (mkSl true f.fresh z) s).bind fun z s => (setSl i (.fz d) s).bind fun _ s => (setSl j z s).bind fun _ s => .ok .nx s := by
  show ((((evE cf e ⟨sl, sh⟩).bind fun d s => (.ok (.fz d) s : R Sl)).bind fun x s => ((((evE cf f s).bind fun z s => ofO (mkSl true f.fresh z) s).bind fun y s => ((.ok [] s : R (List Sl)).bind fun ys s => (.ok (y :: ys) s : R (List Sl))))).bind fun xs s => (.ok (x :: xs) s : R (List Sl))).bind fun xs s => (setSls [.fz i e, .ow j f] xs s).bind fun _ s => .ok Fl.nx s) = _
  cases evE cf e ⟨sl, sh⟩ with
  | ok d s1 =>
    simp only [R.bind]
    cases evE cf f s1 with
    | ok z s2 =>
      simp only []
      cases mkSl true f.fresh z with
      | none => rfl
      | some w =>
        show ((((setSl i (.fz d) s2).bind fun _ s => (setSl j w s).bind fun _ s => (.ok () s : R Unit))).bind fun _ s => .ok Fl.nx s) = (setSl i (.fz d) s2).bind fun _ s => (setSl j w s).bind fun _ s => .ok Fl.nx s
        cases setSl i (.fz d) s2 with
        | ok u s3 =>
          simp only [R.bind]
          cases setSl j w s3 <;> rfl
        | ex x s3 => rfl
        | no => rfl
    | ex x s2 => rfl
    | no => rfl
  | ex x s1 => rfl
  | no => rfl
@[simp ↓] theorem xS_pfn (i j : Nat) (e : IE) (t : Bool) : evS cf W (.par [.fz i e, .nw j t]) ⟨sl, sh⟩ = (evE cf e ⟨sl, sh⟩).bind fun d s => (setSl i (.fz d) s).bind fun _ s => (setSl j (.ow (.dict [(.bl t, .non)])) s).bind fun _ s => .ok .nx s := by
  show ((((evE cf e ⟨sl, sh⟩).bind fun d s => (.ok (.fz d) s : R Sl)).bind fun x s => (.ok [x, .ow (dct t [])] s : R (List Sl))).bind fun xs s => (setSls [.fz i e, .nw j t] xs s).bind fun _ s => .ok Fl.nx s) = _
  cases evE cf e ⟨sl, sh⟩ with
  | ok d s1 =>
    show ((((setSl i (.fz d) s1).bind fun _ s => (setSl j (.ow (dct t [])) s).bind fun _ s => (.ok () s : R Unit))).bind fun _ s => .ok Fl.nx s) = (setSl i (.fz d) s1).bind fun _ s => (setSl j (.ow (.dict [(.bl t, .non)])) s).bind fun _ s => .ok Fl.nx s
    cases setSl i (.fz d) s1 with
    | ok u s3 =>
      simp only [R.bind]
      cases setSl j (.ow (dct t [])) s3 <;> rfl
    | ex x s3 => rfl
    | no => rfl
  | ex x s1 => rfl
  | no => rfl
@[simp ↓] theorem xS_sto (i : Nat) (k v : IE) : evS cf W (.sto i k v) ⟨sl, sh⟩ = (evE cf v ⟨sl, sh⟩).bind fun y s => (hasM i s).bind fun _ s => (evE cf k s).bind fun x s => (stoM i x y s).bind fun _ s => .ok .nx s := id rfl
@[simp ↓] theorem xS_app (i : Nat) (e : IE) : evS cf W (.app i e) ⟨sl, sh⟩ = (ownM i ⟨sl, sh⟩).bind fun _ s => (evE cf e s).bind fun d s => (appM i d s).bind fun _ s => .ok .nx s := id rfl
@[simp ↓] theorem xS_expr (e : IE) : evS cf W (.expr e) ⟨sl, sh⟩ = (evE cf e ⟨sl, sh⟩).bind fun _ s => .ok .nx s := id rfl
@[simp ↓] theorem xS_iff (c : IE) (a b : ISs) : evS cf W (.iff c a b) ⟨sl, sh⟩ = ((evE cf c ⟨sl, sh⟩).bind fun x s => asBl x s).bind fun k s => if k then evSs cf W a s else evSs cf W b s := by
  show ((evE cf c ⟨sl, sh⟩).bind fun x s => asBl x s).bind (fun k s => (if k then evSs cf W a else evSs cf W b) s) = _
  congr 1; funext k s; cases k <;> rfl
@[simp ↓] theorem xS_for (tg : Tg) (it : IT) (body : ISs) : evS cf W (.for tg it body) ⟨sl, sh⟩ = (evT cf it ⟨sl, sh⟩).bind fun items s => forL (fun d => bindM tg d >>= fun _ => evSs cf W body) items s := id rfl
@[simp ↓] theorem xS_whl (c : IE) (body : ISs) : evS cf W (.whl c body) ⟨sl, sh⟩ = whlL (evE cf c >>= asBl) (evSs cf W body) W ⟨sl, sh⟩ := id rfl
@[simp ↓] theorem xS_ret (e : IE) : evS cf W (.ret e) ⟨sl, sh⟩ = (evE cf e ⟨sl, sh⟩).bind fun d s => .ok (.rt d) s := id rfl
@[simp ↓] theorem xS_retN : evS cf W .retN ⟨sl, sh⟩ = .ok (.rt .non) ⟨sl, sh⟩ := id rfl
@[simp ↓] theorem xS_raise : evS cf W .raise ⟨sl, sh⟩ = .no := id rfl
@[simp ↓] theorem xS_pass : evS cf W .pass ⟨sl, sh⟩ = .ok .nx ⟨sl, sh⟩ := id rfl
@[simp ↓] theorem xS_brk : evS cf W .brk ⟨sl, sh⟩ = .ok .bk ⟨sl, sh⟩ := id rfl
@[simp ↓] theorem xS_cont : evS cf W .cont ⟨sl, sh⟩ = .ok .ct ⟨sl, sh⟩ := id rfl
@[simp ↓] theorem x_turn (g : D → M Unit) (c : M Bool) (e : M D) (d : D) : turnM g c e d ⟨sl, sh⟩ = (g d ⟨sl, sh⟩).bind fun _ s => (c s).bind fun k s => if k then (e s).bind fun x s => .ok (some x) s else .ok none s := by
  show (g d ⟨sl, sh⟩).bind (fun _ s => (c s).bind fun k s => (if k then e >>= fun x => Pure.pure (some x) else Pure.pure none : M (Option D)) s) = _
  congr 1; funext _ s; congr 1; funext k s; cases k <;> rfl
end
/-! names -/
section
variable (sl : List Sl) (sh : List D)
@[simp] theorem x_rd0 (d : D) : rdF 0 ⟨.fz d :: sl, sh⟩ = .ok d ⟨.fz d :: sl, sh⟩ := id rfl
@[simp ↓] theorem x_peekN (m : M D) : peek none m ⟨sl, sh⟩ = (m ⟨sl, sh⟩).bind fun d s => .ok (.dv d) s := id rfl
@[simp] theorem x_slot (i : Nat) : IE.slot? (.loc i) = some i := id rfl
@[simp] theorem x_slot_con (d : D) : IE.slot? (.con d) = none := id rfl
@[simp] theorem x_slot_glob (i : Nat) : IE.slot? (.glob i) = none := id rfl
@[simp] theorem x_slot_tup (es : IEs) : IE.slot? (.tup es) = none := id rfl
@[simp] theorem x_slot_lst (es : IEs) : IE.slot? (.lst es) = none := id rfl
@[simp] theorem x_slot_bin (op : Operator) (a b : IE) : IE.slot? (.bin op a b) = none := id rfl
@[simp] theorem x_slot_neg (a : IE) : IE.slot? (.neg a) = none := id rfl
@[simp] theorem x_slot_not (a : IE) : IE.slot? (.not a) = none := id rfl
@[simp] theorem x_slot_cmp (op : CmpOp) (a b : IE) : IE.slot? (.cmp op a b) = none := id rfl
@[simp] theorem x_slot_and (a b : IE) : IE.slot? (.and a b) = none := id rfl
@[simp] theorem x_slot_or (a b : IE) : IE.slot? (.or a b) = none := id rfl
@[simp] theorem x_slot_ite (c a b : IE) : IE.slot? (.ite c a b) = none := id rfl
@[simp] theorem x_slot_chain (o p : CmpOp) (a b c : IE) : IE.slot? (.chain o p a b c) = none := id rfl
@[simp] theorem x_slot_idx (a i : IE) : IE.slot? (.idx a i) = none := id rfl
@[simp] theorem x_slot_slc (a : IE) (l h : IO) : IE.slot? (.slc a l h) = none := id rfl
@[simp] theorem x_slot_rev (a : IE) : IE.slot? (.rev a) = none := id rfl
@[simp] theorem x_slot_comp (elt : IE) (tg : Tg) (it : IT) (cond : IO) (vs : List Nat) : IE.slot? (.comp elt tg it cond vs) = none := id rfl
@[simp] theorem x_slot_call (f : Nat) (es : IEs) : IE.slot? (.call f es) = none := id rfl
@[simp] theorem x_slot_bi (b : Bi) (es : IEs) : IE.slot? (.bi b es) = none := id rfl
end
section
variable (sl : List Sl) (sh : List D)
@[simp] theorem x_rd (i : Nat) : rdF i ⟨sl, sh⟩ = match sl[i]? with
  | some (.fz d) => .ok d ⟨sl, sh⟩
  | some (.ow (.lst ds)) => .ok (.lst ds) ⟨sl.set i (.fz (.lst ds)), sh⟩
  | _ => .no := id rfl
@[simp] theorem x_peekS (i : Nat) (m : M D) : peek (some i) m ⟨sl, sh⟩ = match sl[i]? with
  | some (.fz _) => .ok (.sl i) ⟨sl, sh⟩
  | some (.ow _) => .ok (.sl i) ⟨sl, sh⟩
  | _ => .no := id rfl
@[simp] theorem x_getSl (i : Nat) : getP (.sl i) ⟨sl, sh⟩ = match sl[i]? with
  | some (.fz d) => .ok d ⟨sl, sh⟩
  | some (.ow d) => .ok d ⟨sl, sh⟩
  | _ => .no := by
  show (match (match sl[i]? with
    | some (.fz d) => some d
    | some (.ow d) => some d
    | _ => none) with
    | some d => R.ok d _
    | none => .no) = _
  rcases sl[i]? with _ | (_ | _ | _) <;> rfl
@[simp] theorem x_setSl (i : Nat) (x : Sl) : setSl i x ⟨sl, sh⟩ = if i < sl.length then .ok () ⟨sl.set i x, sh⟩ else .no := id rfl
@[simp] theorem x_bindM (t : Tg) (d : D) : bindM t d ⟨sl, sh⟩ = match bindT t d sl with
  | some sl' => .ok () ⟨sl', sh⟩
  | none => .no := id rfl
@[simp] theorem x_bT_nm (i : Nat) (d : D) : bindT (.nm i) d sl = if i < sl.length then some (sl.set i (.fz d)) else none := id rfl
@[simp] theorem x_bT_tp (ts : List Tg) (ds : List D) : bindT (.tp ts) (.tup ds) sl = bindTs ts ds sl := id rfl
@[simp] theorem x_bT_nil : bindTs [] [] sl = some sl := id rfl
@[simp] theorem x_bT_cons (t : Tg) (ts : List Tg) (d : D) (ds : List D) : bindTs (t :: ts) (d :: ds) sl = match bindT t d sl with
  | some sl' => bindTs ts ds sl'
  | none => none := id rfl
@[simp] theorem x_own_ap (i : Nat) : ownM i ⟨sl, sh⟩ = match sl[i]? with
  | some (.ow (.lst _)) => .ok () ⟨sl, sh⟩
  | _ => .no := id rfl
@[simp] theorem x_has (i : Nat) : hasM i ⟨sl, sh⟩ = match sl[i]? with
  | some (.fz _) => .ok () ⟨sl, sh⟩
  | some (.ow _) => .ok () ⟨sl, sh⟩
  | _ => .no := id rfl
@[simp] theorem x_app (i : Nat) (d : D) : appM i d ⟨sl, sh⟩ = match sl[i]? with
  | some (.ow (.lst ds)) => if ds.length < sizeLine then .ok () ⟨sl.set i (.ow (.lst (ds ++ [d]))), sh⟩ else .no
  | _ => .no := id rfl
@[simp] theorem x_mkSl (ds : List D) : mkSl true true (.lst ds) = some (.ow (.lst ds)) := id rfl
@[simp] theorem x_mkSlf (f : Bool) (d : D) : mkSl false f d = some (.fz d) := id rfl
@[simp] theorem f_lst (es : IEs) : (IE.lst es).fresh = true := id rfl
@[simp] theorem f_comp (elt : IE) (tg : Tg) (it : IT) (cond : IO) (vs : List Nat) : (IE.comp elt tg it cond vs).fresh = true := id rfl
@[simp] theorem f_add (a b : IE) : (IE.bin .Add a b).fresh = true := id rfl
@[simp] theorem f_mul (a b : IE) : (IE.bin .Mult a b).fresh = true := id rfl
@[simp] theorem f_slc (a : IE) (l h : IO) : (IE.slc a l h).fresh = true := id rfl
@[simp] theorem f_rev (a : IE) : (IE.rev a).fresh = true := id rfl
@[simp] theorem f_list (es : IEs) : (IE.bi .list es).fresh = true := id rfl
@[simp] theorem f_sorted (es : IEs) : (IE.bi .sorted es).fresh = true := id rfl
end
@[simp] theorem x_wipe0 (sl : List Sl) : wipeS sl [] = sl := id rfl
@[simp] theorem x_wipe1 (sl : List Sl) (v : Nat) (vs : List Nat) : wipeS sl (v :: vs) = (wipeS sl vs).set v .un := id rfl
/-! values -/
@[simp] theorem eq_int (a b : Int) : eqD (.int a) (.int b) = some (decide (a = b)) := by
  show some (a == b) = _
  congr 1
@[simp] theorem eq_str (a b : Str) : eqD (.str a) (.str b) = some (decide (a = b)) := by
  show some (a == b) = _
  congr 1
@[simp] theorem eq_sq (a b c d : Int) : eqD (.tup [.int a, .int b]) (.tup [.int c, .int d]) = some (decide (a = c ∧ b = d)) := by
  show some ((a == c) && ((b == d) && true)) = _
  congr 1
  rw [Bool.and_true, Bool.eq_iff_iff]; simp
@[simp] theorem ord_int (a b : Int) : ordD (.int a) (.int b) = some (decide (a < b)) := id rfl
@[simp] theorem c_eq (x y : D) : cmpD .Eq x y = eqD x y := id rfl
@[simp] theorem c_ne (x y : D) : cmpD .NotEq x y = (eqD x y).map (!·) := id rfl
@[simp] theorem sz_line : sizeLine = 16777216 := by decide
@[simp ↓] theorem lt_int (a b : Int) : cmpD .Lt (.int a) (.int b) = some (decide (a < b)) := id rfl
@[simp ↓] theorem gt_int (a b : Int) : cmpD .Gt (.int a) (.int b) = some (decide (b < a)) := id rfl
@[simp ↓] theorem le_int (a b : Int) : cmpD .LtE (.int a) (.int b) = some (decide (a ≤ b)) := by
  show some (!(decide (b < a))) = _
  congr 1; by_cases h : a ≤ b
  · simp [h]
  · simp [h]; omega
@[simp ↓] theorem ge_int (a b : Int) : cmpD .GtE (.int a) (.int b) = some (decide (b ≤ a)) := le_int b a
theorem c_lt (x y : D) : cmpD .Lt x y = ordD x y := rfl
theorem c_gt (x y : D) : cmpD .Gt x y = ordD y x := rfl
theorem c_le (x y : D) : cmpD .LtE x y = (ordD y x).map (!·) := rfl
theorem c_ge (x y : D) : cmpD .GtE x y = (ordD x y).map (!·) := rfl
@[simp] theorem c_is (x y : D) : cmpD .Is x y = isD x y := id rfl
@[simp] theorem c_isn (x y : D) : cmpD .IsNot x y = (isD x y).map (!·) := id rfl
@[simp] theorem c_in (x y : D) : cmpD .In x y = inD x y := id rfl
@[simp] theorem c_nin (x y : D) : cmpD .NotIn x y = (inD x y).map (!·) := id rfl
@[simp] theorem b_addi (a b : Int) : binD .Add (.int a) (.int b) = some (.int (a + b)) := id rfl
@[simp] theorem b_subi (a b : Int) : binD .Sub (.int a) (.int b) = some (.int (a - b)) := id rfl
@[simp] theorem b_modi (a b : Int) (h : 0 < b) : binD .Mod (.int a) (.int b) = some (.int (a % b)) := by
  show (if decide (0 < b) = true then _ else _) = _
  rw [if_pos (by simpa using h)]
@[simp] theorem b_divi (a b : Int) (h : 0 < b) (h2 : b < 1073741824) : binD .FloorDiv (.int a) (.int b) = some (.int (a / b)) := by
  show (if (decide (0 < b) && decide (b < 1073741824)) = true then _ else _) = _
  rw [if_pos (by simp [h, h2])]
theorem b_multi (a b : Int) (h : small a = true ∨ small b = true) : binD .Mult (.int a) (.int b) = some (.int (a * b)) := by
  show (if (small a || small b) = true then _ else _) = _
  rw [if_pos (by rcases h with h | h <;> simp [h])]
@[simp] theorem b_addl (a b : List D) (h : a.length + b.length ≤ sizeLine) : binD .Add (.lst a) (.lst b) = some (.lst (a ++ b)) := by
  show (if lenOk (a ++ b) = true then _ else _) = _
  rw [if_pos (by unfold lenOk; simpa using h)]
@[simp] theorem b_addt (a b : List D) (h : a.length + b.length ≤ sizeLine) : binD .Add (.tup a) (.tup b) = some (.tup (a ++ b)) := by
  show (if lenOk (a ++ b) = true then _ else _) = _
  rw [if_pos (by unfold lenOk; simpa using h)]
@[simp] theorem b_adds (a b : Str) (h : a.length + b.length ≤ sizeLine) : binD .Add (.str a) (.str b) = some (.str (a ++ b)) := by
  show (if _ then _ else _) = _
  rw [if_pos h]
@[simp] theorem mkT_ok (ds : List D) (h : ds.length ≤ sizeLine) : mkT ds = some (.tup ds) := by
  unfold mkT lenOk; rw [if_pos (decide_eq_true h)]
@[simp] theorem mkL_ok (ds : List D) (h : ds.length ≤ sizeLine) : mkL ds = some (.lst ds) := by
  unfold mkL lenOk; rw [if_pos (decide_eq_true h)]
@[simp] theorem idxM_ap (x k : D) (s : S) : idxM x k s = ofO (idxD s.sh x k) s := id rfl
@[simp] theorem il_ap (sh : List D) (ds : List D) (i : Int) : idxD sh (.lst ds) (.int i) = atD ds i := id rfl
@[simp] theorem it_ap (sh : List D) (ds : List D) (i : Int) : idxD sh (.tup ds) (.int i) = atD ds i := id rfl
theorem atD_pos {α : Type} {xs : List α} {i : Int} (h : 0 ≤ i) (h2 : i < xs.length) : atD xs i = xs[i.toNat]? := by
  unfold atD L2.atI L2.ixN
  rw [if_pos h, if_pos h2]; rfl
@[simp] theorem at0 {α : Type} (x : α) (xs : List α) : atD (x :: xs) 0 = some x := by
  rw [atD_pos (by decide) (by simp only [List.length_cons]; omega)]; rfl
@[simp] theorem at1 {α : Type} (x y : α) (xs : List α) : atD (x :: y :: xs) 1 = some y := by
  rw [atD_pos (by decide) (by simp only [List.length_cons]; omega)]; rfl
theorem in_ints (w : Int) (l : List Int) : inD (.int w) (.tup (l.map .int)) = some (decide (w ∈ l)) := by
  have h1 : D.plL (l.map D.int) = true := by
    induction l with
    | nil => rfl
    | cons a l ih => show (true && D.plL _) = true; rw [ih]; rfl
  have h2 : D.depL (l.map D.int) = 0 := by
    clear h1
    induction l with
    | nil => rfl
    | cons a l ih => show max 0 (D.depL _) = 0; rw [ih]; rfl
  show (if ((D.int w).shp && D.plL (l.map D.int) && decide (D.depL (l.map D.int) ≤ 60)) = true then some ((l.map D.int).any fun d => d.eqv (.int w)) else none) = _
  rw [h1, h2, if_pos (by rfl), List.any_map]
  congr 1
  rw [Bool.eq_iff_iff, List.any_eq_true, decide_eq_true_eq]
  constructor
  · rintro ⟨x, hx, e⟩
    have e : (x == w) = true := e
    rw [beq_iff_eq] at e
    exact e ▸ hx
  · intro h
    exact ⟨w, h, by show (w == w) = true; rw [beq_iff_eq]⟩
@[simp] theorem in_ints2 (w a b : Int) : inD (.int w) (.tup [.int a, .int b]) = some (decide (w ∈ [a, b])) := in_ints w [a, b]
@[simp] theorem in_ints3 (w a b c : Int) : inD (.int w) (.tup [.int a, .int b, .int c]) = some (decide (w ∈ [a, b, c])) := in_ints w [a, b, c]
@[simp] theorem in_ints4 (w a b c d : Int) : inD (.int w) (.tup [.int a, .int b, .int c, .int d]) = some (decide (w ∈ [a, b, c, d])) := in_ints w [a, b, c, d]
/-! choices of values -/
@[simp] theorem if_ok {α : Type} (c : Prop) [Decidable c] (a b : α) (s : S) : (if c then R.ok a s else R.ok b s) = R.ok (if c then a else b) s := by split <;> rfl
@[simp] theorem if_int (c : Prop) [Decidable c] (a b : Int) : (if c then D.int a else D.int b) = .int (if c then a else b) := by split <;> rfl
@[simp] theorem if_bl (c : Prop) [Decidable c] (a b : Bool) : (if c then D.bl a else D.bl b) = .bl (if c then a else b) := by split <;> rfl
@[simp] theorem if_tup2 (c : Prop) [Decidable c] (a b a' b' : Int) : (if c then D.tup [.int a, .int b] else .tup [.int a', .int b']) = .tup [.int (if c then a else a'), .int (if c then b else b')] := by split <;> rfl
@[simp] theorem bd_len : biD .len = lenD := id rfl
@[simp] theorem bd_tuple : biD .tuple = tupleD := id rfl
@[simp] theorem bd_list : biD .list = listD := id rfl
@[simp] theorem bd_all : biD .all = allD := id rfl
@[simp] theorem bd_any : biD .any = anyD := id rfl
@[simp] theorem bd_sum : biD .sum = sumD := id rfl
@[simp] theorem bd_abs : biD .abs = absD := id rfl
@[simp] theorem bd_int : biD .int = intD := id rfl
@[simp] theorem bd_max : biD .max = maxD := id rfl
@[simp] theorem bd_min : biD .min = minD := id rfl
@[simp] theorem bd_sorted : biD .sorted = sortedD := id rfl
@[simp] theorem bd_join : biD .join = joinD := id rfl
@[simp] theorem bd_isi (t : Ty) : biD (.isi t) = isiD t := id rfl
@[simp] theorem bd_getOr (ks : List (Int × Int)) : biD (.getOr ks) = getOrD ks := id rfl
@[simp] theorem bd_sortSet : biD .sortSet = sortSetD := id rfl
@[simp] theorem bd_sortDict : biD .sortDict = sortDictD := id rfl
@[simp] theorem bd_lenSet : biD .lenSet = lenSetD := id rfl
@[simp] theorem v_lenl (ds : List D) : lenD [.lst ds] = some (.int ds.length) := id rfl
@[simp] theorem v_lent (ds : List D) : lenD [.tup ds] = some (.int ds.length) := id rfl
@[simp] theorem v_lens (a : Str) (h : a.length ≤ sizeLine) : lenD [.str a] = some (.int a.length) := if_pos h
@[simp] theorem v_tup (ds : List D) : tupleD [.lst ds] = some (.tup ds) := id rfl
@[simp] theorem v_tupt (ds : List D) : tupleD [.tup ds] = some (.tup ds) := id rfl
@[simp] theorem v_lst (ds : List D) : listD [.lst ds] = some (.lst ds) := id rfl
@[simp] theorem v_lstt (ds : List D) : listD [.tup ds] = some (.lst ds) := id rfl
def iabs (i : Int) : Int := if i < 0 then -i else i
@[simp] theorem v_abs (i : Int) : absD [.int i] = some (.int (iabs i)) := id rfl
@[simp] theorem v_int (i : Int) : intD [.int i] = some (.int i) := id rfl
@[simp] theorem v_max (i j : Int) : maxD [.int i, .int j] = some (.int (if j > i then j else i)) := id rfl
@[simp] theorem v_min (i j : Int) : minD [.int i, .int j] = some (.int (if j < i then j else i)) := id rfl
@[simp] theorem v_isn (t : Ty) : isiD t [.non] = some (.bl false) := id rfl
@[simp] theorem v_isb (t : Ty) (b : Bool) : isiD t [.bl b] = some (.bl (t == .int || t == .bool)) := id rfl
@[simp] theorem v_isi (t : Ty) (i : Int) : isiD t [.int i] = some (.bl (t == .int)) := id rfl
@[simp] theorem v_iss (t : Ty) (a : Str) : isiD t [.str a] = some (.bl (t == .str)) := id rfl
@[simp] theorem v_ist (t : Ty) (ds : List D) : isiD t [.tup ds] = some (.bl (t == .tuple)) := id rfl
@[simp] theorem v_isl (t : Ty) (ds : List D) : isiD t [.lst ds] = some (.bl (t == .list)) := id rfl
theorem blsOf_map : ∀ bs : List Bool, blsOf (bs.map .bl) = some bs
  | [] => rfl
  | b :: bs => by show (blsOf (bs.map .bl)).map _ = _; rw [blsOf_map bs]; rfl
theorem intsOf_map : ∀ bs : List Int, intsOf (bs.map .int) = some bs
  | [] => rfl
  | b :: bs => by show (intsOf (bs.map .int)).map _ = _; rw [intsOf_map bs]; rfl
theorem strsOf_map : ∀ bs : List Str, strsOf (bs.map .str) = some bs
  | [] => rfl
  | b :: bs => by show (strsOf (bs.map .str)).map _ = _; rw [strsOf_map bs]; rfl
section
variable {α : Type}
@[simp] theorem v_all (xs : List α) (p : α → Bool) : allD [.lst (xs.map fun x => .bl (p x))] = some (.bl (xs.all p)) := by
  show (blsOf _).map _ = _
  rw [show (xs.map fun x => D.bl (p x)) = (xs.map p).map .bl by rw [List.map_map]; rfl, blsOf_map]
  simp
@[simp] theorem v_any (xs : List α) (p : α → Bool) : anyD [.lst (xs.map fun x => .bl (p x))] = some (.bl (xs.any p)) := by
  show (blsOf _).map _ = _
  rw [show (xs.map fun x => D.bl (p x)) = (xs.map p).map .bl by rw [List.map_map]; rfl, blsOf_map]
  simp
@[simp] theorem v_sum (xs : List α) (p : α → Int) : sumD [.lst (xs.map fun x => .int (p x))] = some (.int (xs.map p).sum) := by
  show (intsOf _).map _ = _
  rw [show (xs.map fun x => D.int (p x)) = (xs.map p).map .int by rw [List.map_map]; rfl, intsOf_map]
  rfl
end
@[simp] theorem w_lst (ds : List D) : walkD (.lst ds) = some ds := id rfl
@[simp] theorem w_tup (ds : List D) : walkD (.tup ds) = some ds := id rfl
@[simp] theorem w_str (s : Str) : walkD (.str s) = some (s.cps.toList.map fun c => .str ⟨#[c]⟩) := id rfl
@[simp] theorem zw_tup (a b : List D) : zipW (.tup a) (.tup b) = some (zipD a b) := id rfl
@[simp] theorem zw_lst (a b : List D) : zipW (.lst a) (.lst b) = some (zipD a b) := id rfl
@[simp] theorem rv_lst (ds : List D) : revD (.lst ds) = some (.lst ds.reverse) := id rfl
@[simp] theorem rv_tup (ds : List D) : revD (.tup ds) = some (.tup ds.reverse) := id rfl
@[simp] theorem rv_str (s : Str) (h : s.length ≤ sizeLine) : revD (.str s) = some (.str ⟨s.cps.toList.reverse.toArray⟩) := if_pos h
@[simp] theorem sl_lst (lo hi : Option Int) (ds : List D) : slcD lo hi (.lst ds) = some (.lst (cutD ds lo hi)) := id rfl
@[simp] theorem sl_tup (lo hi : Option Int) (ds : List D) : slcD lo hi (.tup ds) = some (.tup (cutD ds lo hi)) := id rfl
theorem cut_drop {α : Type} (xs : List α) (i : Int) (h : 0 ≤ i) : cutD xs (some i) none = xs.drop i.toNat := by
  unfold cutD
  have e : HT.sIx xs.length 0 (some i) = min i.toNat xs.length := by
    show (if i < 0 then _ else _) = _
    rw [if_neg (by omega)]
  rw [e, HT.sIx_none]
  by_cases h2 : i.toNat ≤ xs.length
  · rw [Nat.min_eq_left h2, List.take_of_length_le (by simp)]
  · rw [Nat.min_eq_right (by omega), List.drop_of_length_le (Nat.le_refl _), List.drop_of_length_le (by omega), List.take_nil]
theorem cut_take {α : Type} (xs : List α) (i : Int) (h : 0 ≤ i) : cutD xs none (some i) = xs.take i.toNat := by
  unfold cutD
  have e : HT.sIx xs.length xs.length (some i) = min i.toNat xs.length := by
    show (if i < 0 then _ else _) = _
    rw [if_neg (by omega)]
  rw [e, HT.sIx_none]
  show (xs.drop 0).take (min i.toNat xs.length - 0) = _
  rw [List.drop_zero, Nat.sub_zero]
  by_cases h2 : i.toNat ≤ xs.length
  · rw [Nat.min_eq_left h2]
  · rw [Nat.min_eq_right (by omega), List.take_of_length_le (Nat.le_refl _), List.take_of_length_le (by omega)]
@[simp] theorem cut_1 {α : Type} (xs : List α) : cutD xs (some 1) none = xs.drop 1 := cut_drop xs 1 (by decide)
@[simp] theorem idx_ref (sh : List D) (n : Nat) (i : Int) : idxD sh (.ref n) (.int i) = match sh[n]? with
  | some (.lst ds) => atD ds i
  | _ => none := id rfl
@[simp] theorem x_sto (i : Nat) (k v : D) (sl : List Sl) (sh : List D) : stoM i k v ⟨sl, sh⟩ = match sl[i]? with
  | some (.ow (.lst ds)) => (match k with
    | .int z => (match L2.ixN ds.length z with
      | some j => .ok () ⟨sl.set i (.ow (.lst (ds.set j v))), sh⟩
      | none => .no)
    | _ => .no)
  | some (.ow (.dict ((.bl t, .non) :: kvs))) => if keyFit t k && decide (kvs.length < sizeLine) then .ok () ⟨sl.set i (.ow (.dict ((.bl t, .non) :: dPut kvs k v))), sh⟩ else .no
  | some (.fz (.ref n)) => (match sh[n]?, k with
    | some (.lst ds), .int z => (match L2.ixN ds.length z with
      | some j => .ok () ⟨sl, sh.set n (.lst (ds.set j v))⟩
      | none => .no)
    | _, _ => .no)
  | _ => .no := id rfl
@[simp] theorem x_dgetM (i : Nat) (k x : D) (sl : List Sl) (sh : List D) : dgetM i k x ⟨sl, sh⟩ = match sl[i]? with
  | some (.ow (.dict ((.bl false, .non) :: kvs))) => if keyFit false k then .ok ((dLook kvs k).getD x) ⟨sl, sh⟩ else .no
  | _ => .no := id rfl
@[simp] theorem x_dicM (i : Nat) (sl : List Sl) (sh : List D) : dicM i ⟨sl, sh⟩ = match sl[i]? with
  | some (.ow (.dict ((.bl false, .non) :: _))) => .ok () ⟨sl, sh⟩
  | _ => .no := id rfl
@[simp] theorem x_popM (i : Nat) (sl : List Sl) (sh : List D) : popM i ⟨sl, sh⟩ = match sl[i]? with
  | some (.ow (.lst ds)) => (match ds[ds.length - 1]? with
    | some x => .ok x ⟨sl.set i (.ow (.lst ds.dropLast)), sh⟩
    | none => .no)
  | _ => .no := id rfl
@[simp] theorem in_dic (k : D) (t : Bool) (kvs : List (D × D)) : inD k (.dict ((.bl t, .non) :: kvs)) = if keyFit t k then some (dLook kvs k).isSome else none := by
  cases k <;> rfl
@[simp] theorem idx_dic (sh : List D) (k : D) (t : Bool) (kvs : List (D × D)) : idxD sh (.dict ((.bl t, .non) :: kvs)) k = if keyFit t k then dLook kvs k else none := by
  cases k <;> rfl
@[simp] theorem fit_int (i : Int) : keyFit false (.int i) = true := id rfl
@[simp] theorem fit_str (s : Str) : keyFit false (.str s) = true := id rfl
@[simp] theorem ixN_ok {n : Nat} {i : Int} (h : 0 ≤ i) (h2 : i < n) : L2.ixN n i = some i.toNat := by
  unfold L2.ixN; rw [if_pos h, if_pos h2]
@[simp] theorem x_shlM (ds : List D) (h : ds.length ≤ sizeLine) (sl : List Sl) (sh : List D) : shlM ds ⟨sl, sh⟩ = .ok (.ref sh.length) ⟨sl, sh ++ [.lst ds]⟩ := by
  exact if_pos (show lenOk ds = true from decide_eq_true h)
@[simp] theorem b_pow (a b : Int) (h : 0 ≤ b) (h2 : b ≤ 1000000) (h3 : a.natAbs < 18446744073709551616) : binD .Pow (.int a) (.int b) = some (.int (a ^ b.toNat)) := by
  show (if (decide (0 ≤ b) && decide (b ≤ 1000000) && decide (a.natAbs < 2 ^ 64)) = true then _ else _) = _
  rw [if_pos (by simp only [Bool.and_eq_true, decide_eq_true_eq]; exact ⟨⟨h, h2⟩, h3⟩)]
theorem sm (i : Int) (h : -18446744073709551616 < i) (h2 : i < 18446744073709551616) : small i = true := by
  unfold small; rw [Bool.and_eq_true]; exact ⟨decide_eq_true h, decide_eq_true h2⟩
@[simp] theorem b_mult_r (a b : Int) (h : -18446744073709551616 < b) (h2 : b < 18446744073709551616) : binD .Mult (.int a) (.int b) = some (.int (a * b)) := b_multi a b (.inr (sm b h h2))
@[simp] theorem b_mult_l (a b : Int) (h : -18446744073709551616 < a) (h2 : a < 18446744073709551616) : binD .Mult (.int a) (.int b) = some (.int (a * b)) := b_multi a b (.inl (sm a h h2))
theorem idx62_ok {i : Int} (h : -(2 ^ 62) ≤ i) (h2 : i < 2 ^ 62) : idx62 i = true := by
  unfold idx62; rw [Bool.and_eq_true]; exact ⟨decide_eq_true h, decide_eq_true h2⟩
theorem x_rng1 {i : Int} (h : idx62 i = true) (s : S) : rng1M (.int i) s = .ok (rngD 0 i.toNat) s := by
  unfold rng1M; simp only [h]; rfl
theorem x_rng2 {i j : Int} (h : idx62 i = true) (h' : idx62 j = true) (s : S) : rng2M (.int i) (.int j) s = .ok (rngD i (j - i).toNat) s := by
  unfold rng2M; simp only [h, h']; rfl
end Pw

set_option maxRecDepth 100000
/-! Pv.B: boards, squares, kinds as values. -/
namespace Pw
open PySem Pv
/-! ### ranges -/
def rng (n : Nat) : List Int := (List.range n).map fun (i : Nat) => (i : Int)
@[simp] theorem rng_len (n : Nat) : (rng n).length = n := by unfold rng; simp
theorem rng_mem {n : Nat} {i : Int} : i ∈ rng n ↔ 0 ≤ i ∧ i < n := by
  unfold rng
  rw [List.mem_map]
  constructor
  · rintro ⟨j, hj, rfl⟩
    have := List.mem_range.mp hj
    exact ⟨by omega, by omega⟩
  · rintro ⟨h, h2⟩
    exact ⟨i.toNat, List.mem_range.mpr (by omega), by omega⟩
theorem rng_get {n : Nat} {i : Nat} (h : i < n) : (rng n)[i]? = some (i : Int) := by
  unfold rng; rw [List.getElem?_map, List.getElem?_range h]; rfl
@[simp] theorem rngD_eq (n : Nat) : rngD 0 n = (rng n).map .int := by
  unfold rngD rng
  rw [List.map_map]
  exact List.map_congr_left fun i _ => by simp
theorem rng_rev (n : Nat) : (rng n).reverse = (rng n).map fun i => (n : Int) - 1 - i := by
  refine List.ext_getElem? fun j => ?_
  by_cases h : j < n
  · rw [List.getElem?_reverse (by simpa using h), List.getElem?_map, rng_get h, rng_len, rng_get (by omega)]
    show some ((n - 1 - j : Nat) : Int) = some ((n : Int) - 1 - (j : Int))
    congr 1; omega
  · rw [List.getElem?_eq_none (by simp; omega), List.getElem?_eq_none (by simp; omega)]
theorem rng_nodup (n : Nat) : (rng n).Nodup := by
  unfold rng
  refine List.Pairwise.map _ (fun a b h => ?_) List.nodup_range
  intro e; exact h (by omega)
theorem rng_lt (n : Nat) : (rng n).Pairwise (· < ·) := by
  unfold rng
  refine List.Pairwise.map _ (fun a b h => ?_) List.pairwise_lt_range
  show (a : Int) < b; omega
@[simp] theorem rng_0 : rng 0 = [] := id rfl
theorem rng_cons (n : Nat) : ∃ l, rng (n + 1) = 0 :: l := ⟨_, by unfold rng; rw [List.range_succ_eq_map]; rfl⟩
/-- a row of values by place -/
theorem atD_rng {α : Type} {n : Nat} {g : Int → α} {i : Int} (h : 0 ≤ i) (h2 : i < n) : atD ((rng n).map g) i = some (g i) := by
  rw [atD_pos h (by simpa using h2), List.getElem?_map, rng_get (by omega)]
  show some _ = _
  congr 2; omega
theorem map_rng_inj {α : Type} {n m : Nat} {f g : Int → α} (h : (rng n).map f = (rng m).map g) : n = m ∧ ∀ i : Int, 0 ≤ i → i < n → f i = g i := by
  have hl := congrArg List.length h
  simp at hl
  subst hl
  refine ⟨rfl, fun i h0 h1 => ?_⟩
  have := List.map_inj_left.mp h
  exact this i (rng_mem.mpr ⟨h0, h1⟩)
theorem map_rng_congr {α : Type} {n : Nat} {f g : Int → α} (h : ∀ i : Int, 0 ≤ i → i < n → f i = g i) : (rng n).map f = (rng n).map g :=
  List.map_congr_left fun i hi => h i (rng_mem.mp hi).1 (rng_mem.mp hi).2
@[simp] theorem enum_rng {n : Nat} {g : Int → D} : enumD ((rng n).map g) = (rng n).map fun i => .tup [.int i, g i] := by
  unfold enumD
  refine List.ext_getElem? fun j => ?_
  rw [List.getElem?_map, List.getElem?_zipIdx, List.getElem?_map, List.getElem?_map]
  by_cases h : j < n
  · rw [rng_get h]; simp
  · rw [List.getElem?_eq_none (by simp; omega)]; rfl
/-- lists by place -/
theorem list_rng {α : Type} (d : α) (l : List α) : l = (rng l.length).map fun i => l.getD i.toNat d := by
  refine List.ext_getElem? fun j => ?_
  rw [List.getElem?_map]
  by_cases h : j < l.length
  · rw [rng_get h]
    simp [List.getD_eq_getElem?_getD, List.getElem?_eq_getElem h]
  · rw [List.getElem?_eq_none (by omega), List.getElem?_eq_none (by simp; omega)]; rfl
theorem enum_list {α : Type} {f : α → D} (d : α) (l : List α) : enumD (l.map f) = (rng l.length).map fun i => .tup [.int i, f (l.getD i.toNat d)] := by
  conv => lhs; rw [list_rng d l, List.map_map]
  rw [show (f ∘ fun i : Int => l.getD i.toNat d) = fun i : Int => f (l.getD i.toNat d) from rfl, enum_rng]
@[simp] theorem rng1_nat (n : Nat) (h : n ≤ 16777216) (sl : List Sl) (sh : List D) : rng1M (.int (n : Int)) ⟨sl, sh⟩ = .ok ((rng n).map .int) ⟨sl, sh⟩ := by
  rw [x_rng1 (idx62_ok (by omega) (by omega)), rngD_eq]; rfl
theorem rng1_int (i : Int) (h : 0 ≤ i) (h2 : i ≤ 16777216) (sl : List Sl) (sh : List D) : rng1M (.int i) ⟨sl, sh⟩ = .ok ((rng i.toNat).map .int) ⟨sl, sh⟩ := by
  rw [x_rng1 (idx62_ok (by omega) (by omega)), rngD_eq]
/-! ### squares, boards -/
def sq (p : Int × Int) : D := .tup [.int p.1, .int p.2]
def sg (b : Bool) : Nat := if b then 46 else 35
def ln (C : Nat) (g : Int → Bool) : Str := ⟨((rng C).map fun c => sg (g c)).toArray⟩
def bdl (R C : Nat) (f : Int → Int → Bool) : List D := (rng R).map fun r => .str (ln C (f r))
def bd (R C : Nat) (f : Int → Int → Bool) : D := .tup (bdl R C f)
theorem sg_inj {a b : Bool} : sg a = sg b ↔ a = b := by cases a <;> cases b <;> simp [sg]
@[simp] theorem ln_len (C : Nat) (g : Int → Bool) : (ln C g).length = C := by
  show ((rng C).map _).toArray.size = C
  simp
@[simp] theorem ln_list (C : Nat) (g : Int → Bool) : (ln C g).cps.toList = (rng C).map fun c => sg (g c) := by
  show ((rng C).map _).toArray.toList = _
  simp
theorem ln_inj {C C' : Nat} {g g' : Int → Bool} : ln C g = ln C' g' ↔ C = C' ∧ ∀ c : Int, 0 ≤ c → c < C → g c = g' c := by
  constructor
  · intro h
    have h2 : (ln C g).cps.toList = (ln C' g').cps.toList := by rw [h]
    rw [ln_list, ln_list] at h2
    obtain ⟨e, h3⟩ := map_rng_inj h2
    exact ⟨e, fun c h0 h1 => sg_inj.mp (h3 c h0 h1)⟩
  · rintro ⟨rfl, h⟩
    unfold ln
    rw [map_rng_congr fun c h0 h1 => congrArg sg (h c h0 h1)]
@[simp] theorem bdl_len (R C : Nat) (f : Int → Int → Bool) : (bdl R C f).length = R := by unfold bdl; simp
theorem bdl_congr {R C : Nat} {f g : Int → Int → Bool} (h : ∀ r c : Int, 0 ≤ r → r < R → 0 ≤ c → c < C → f r c = g r c) : bdl R C f = bdl R C g := by
  unfold bdl
  exact map_rng_congr fun r h0 h1 => congrArg D.str (ln_inj.mpr ⟨rfl, fun c h2 h3 => h r c h0 h1 h2 h3⟩)
theorem bd_congr {R C : Nat} {f g : Int → Int → Bool} (h : ∀ r c : Int, 0 ≤ r → r < R → 0 ≤ c → c < C → f r c = g r c) : bd R C f = bd R C g := by
  unfold bd; rw [bdl_congr h]
theorem bd_inj {R C R' C' : Nat} {f g : Int → Int → Bool} (hR : 0 < R) : bd R C f = bd R' C' g ↔ R = R' ∧ C = C' ∧ ∀ r c : Int, 0 ≤ r → r < R → 0 ≤ c → c < C → f r c = g r c := by
  constructor
  · intro h
    have h1 : bdl R C f = bdl R' C' g := by unfold bd at h; exact D.tup.inj h
    unfold bdl at h1
    obtain ⟨e, h2⟩ := map_rng_inj h1
    have h3 := fun r h0 h1 => ln_inj.mp (D.str.inj (h2 r h0 h1))
    exact ⟨e, (h3 0 (by omega) (by omega)).1, fun r c a b c1 d => (h3 r a b).2 c c1 d⟩
  · rintro ⟨rfl, rfl, h⟩
    exact bd_congr h
/-- is one of the boards -/
def BdOk (R C : Nat) : Prop := 1 ≤ R ∧ R ≤ 24 ∧ 1 ≤ C ∧ C ≤ 24
def inB (R C : Nat) (p : Int × Int) : Prop := 0 ≤ p.1 ∧ p.1 < R ∧ 0 ≤ p.2 ∧ p.2 < C
/-- a board's squares -/
def sqs (R C : Nat) (f : Int → Int → Bool) : List (Int × Int) := (rng R).flatMap fun r => ((rng C).filter fun c => f r c).map fun c => (r, c)
theorem sqs_mem {R C : Nat} {f : Int → Int → Bool} {p : Int × Int} : p ∈ sqs R C f ↔ inB R C p ∧ f p.1 p.2 = true := by
  unfold sqs inB
  rw [List.mem_flatMap]
  constructor
  · rintro ⟨r, hr, hp⟩
    rw [List.mem_map] at hp
    obtain ⟨c, hc, rfl⟩ := hp
    rw [List.mem_filter] at hc
    have h1 := rng_mem.mp hr
    have h2 := rng_mem.mp hc.1
    exact ⟨⟨h1.1, h1.2, h2.1, h2.2⟩, hc.2⟩
  · rintro ⟨⟨h0, h1, h2, h3⟩, h4⟩
    exact ⟨p.1, rng_mem.mpr ⟨h0, h1⟩, List.mem_map.mpr ⟨p.2, List.mem_filter.mpr ⟨rng_mem.mpr ⟨h2, h3⟩, h4⟩, rfl⟩⟩
/-- the order of squares -/
def sqLt (p q : Int × Int) : Prop := p.1 < q.1 ∨ p.1 = q.1 ∧ p.2 < q.2
instance (p q : Int × Int) : Decidable (sqLt p q) := by unfold sqLt; infer_instance
theorem sqLt_irrefl {p : Int × Int} : ¬ sqLt p p := by unfold sqLt; omega
theorem sqLt_trans {p q r : Int × Int} (h : sqLt p q) (h' : sqLt q r) : sqLt p r := by unfold sqLt at *; omega
theorem sqLt_asymm {p q : Int × Int} (h : sqLt p q) : ¬ sqLt q p := by unfold sqLt at *; omega
theorem sqLt_total {p q : Int × Int} (h : p ≠ q) : sqLt p q ∨ sqLt q p := by
  unfold sqLt
  have : ¬ (p.1 = q.1 ∧ p.2 = q.2) := fun z => h (Prod.ext z.1 z.2)
  omega
theorem sqs_sorted (R C : Nat) (f : Int → Int → Bool) : (sqs R C f).Pairwise sqLt := by
  unfold sqs
  rw [List.pairwise_flatMap]
  refine ⟨fun r _ => ?_, ?_⟩
  · refine List.Pairwise.map _ (fun a b h => .inr ⟨rfl, h⟩) ((rng_lt C).filter _)
  · refine (rng_lt R).imp fun {a b} h x hx y hy => ?_
    rw [List.mem_map] at hx hy
    obtain ⟨c, _, rfl⟩ := hx
    obtain ⟨c', _, rfl⟩ := hy
    exact .inl h
theorem sqs_len_le (C : Nat) (f : Int → Int → Bool) : ∀ l : List Int, (l.flatMap fun r => ((rng C).filter fun c => f r c).map fun c => (r, c)).length ≤ l.length * C
  | [] => by simp
  | r :: l => by
    have ih := sqs_len_le C f l
    rw [List.flatMap_cons, List.length_append, List.length_cons, Nat.succ_mul]
    have : (((rng C).filter fun c => f r c).map fun c => (r, c)).length ≤ C := by
      rw [List.length_map]; exact Nat.le_trans (List.length_filter_le _ _) (by simp)
    omega
theorem sqs_len (R C : Nat) (f : Int → Int → Bool) : (sqs R C f).length ≤ R * C := by
  have h := sqs_len_le C f (rng R)
  rw [rng_len] at h
  exact h
/-! ### kinds -/
inductive Kd where
  | tower | runner | queen | king
  | leap (a b : Int)
  deriving DecidableEq
def kd : Kd → D
  | .tower => .str "tower"
  | .runner => .str "runner"
  | .queen => .str "queen"
  | .king => .str "king"
  | .leap a b => .tup [.int a, .int b]
def KdOk : Kd → Prop
  | .leap a b => 1 ≤ a ∧ a ≤ 12 ∧ 0 ≤ b ∧ b ≤ a
  | _ => True
def tak (k : Kd) (p q : Int × Int) : Bool :=
  let d := iabs (p.1 - q.1)
  let a := iabs (p.2 - q.2)
  if d = 0 ∧ a = 0 then false else match k with
    | .tower => decide (d = 0 ∨ a = 0)
    | .runner => decide (d = a)
    | .queen => decide ((d = 0 ∨ a = 0) ∨ d = a)
    | .king => decide (d ≤ 1 ∧ a ≤ 1)
    | .leap x y => decide ((x = d ∧ y = a) ∨ (x = a ∧ y = d))
end Pw

set_option maxRecDepth 100000
/-! Pv.B2: squares in order. -/
namespace Pw
open PySem Pv
theorem sq_lt (p q : Int × Int) : (sq p).lt (sq q) = decide (sqLt p q) := by
  obtain ⟨a, b⟩ := p
  obtain ⟨c, d⟩ := q
  show PySem.W.dataLt _ _ = _
  have h : PySem.W.dataLt (sq (a, b)).toP (sq (c, d)).toP = (decide (a < c) || (!decide (c < a) && (decide (b < d) || (!decide (d < b) && false)))) := by
    show (decide ((1 : Int) < 1) || (!decide ((1 : Int) < 1) && (decide (a < c) || (!decide (c < a) && (decide ((1 : Int) < 1) || (!decide ((1 : Int) < 1) && (decide (b < d) || (!decide (d < b) && (decide ((0 : Int) < 0) || (!decide ((0 : Int) < 0) && false)))))))))) = _
    simp
  rw [h, Bool.eq_iff_iff]
  show _ ↔ decide (a < c ∨ a = c ∧ b < d) = true
  simp only [Bool.or_eq_true, Bool.and_eq_true, Bool.not_eq_true', decide_eq_true_eq, decide_eq_false_iff_not, Bool.false_eq_true, and_false, or_false]
  omega
theorem sq_ali (p q : Int × Int) : (sq p).ali (sq q) = true := rfl
theorem sq_shp (p : Int × Int) : (sq p).shp = true := rfl
@[simp] theorem ord_sq (p q : Int × Int) : ordD (sq p) (sq q) = some (decide (sqLt p q)) := by
  rw [← sq_lt]
  rfl
@[simp ↓] theorem lt_sq (p q : Int × Int) : cmpD .Lt (sq p) (sq q) = some (decide (sqLt p q)) := ord_sq p q
@[simp] theorem eqD_sq (p q : Int × Int) : eqD (sq p) (sq q) = some (decide (p = q)) := by
  show eqD (.tup [.int p.1, .int p.2]) (.tup [.int q.1, .int q.2]) = _
  rw [eq_sq]
  congr 1
  rw [decide_eq_decide]
  exact ⟨fun h => Prod.ext h.1 h.2, fun h => h ▸ ⟨rfl, rfl⟩⟩
theorem sq_inj {p q : Int × Int} : sq p = sq q ↔ p = q := by
  constructor
  · intro h
    unfold sq at h
    injection h with h
    injection h with h1 h2
    injection h2 with h2 _
    injection h1 with h1
    injection h2 with h2
    exact Prod.ext h1 h2
  · rintro rfl; rfl
/-- sorting squares -/
def sqLe (p q : Int × Int) : Bool := !decide (sqLt q p)
def sortSq (l : List (Int × Int)) : List (Int × Int) := l.mergeSort sqLe
theorem sqLe_dLe (p q : Int × Int) : dLe (sq p) (sq q) = sqLe p q := by
  unfold sqLe
  rw [← sq_lt]
  rfl
theorem sqLe_trans (a b c : Int × Int) (h : sqLe a b = true) (h' : sqLe b c = true) : sqLe a c = true := by
  have h1 : ¬ sqLt b a := by unfold sqLe at h; simpa using h
  have h2 : ¬ sqLt c b := by unfold sqLe at h'; simpa using h'
  have h3 : ¬ sqLt c a := by unfold sqLt at *; omega
  unfold sqLe
  simpa using h3
theorem sqLe_total (a b : Int × Int) : (sqLe a b || sqLe b a) = true := by
  unfold sqLe
  have : ¬ sqLt b a ∨ ¬ sqLt a b := by unfold sqLt; omega
  simpa using this
theorem sortSq_perm (l : List (Int × Int)) : (sortSq l).Perm l := List.mergeSort_perm l sqLe
theorem sortSq_le (l : List (Int × Int)) : (sortSq l).Pairwise fun a b => sqLe a b = true := List.pairwise_mergeSort sqLe_trans sqLe_total l
theorem sortSq_lt {l : List (Int × Int)} (h : l.Nodup) : (sortSq l).Pairwise sqLt := by
  have h1 := sortSq_le l
  have h2 : (sortSq l).Nodup := (sortSq_perm l).nodup_iff.mpr h
  refine (h1.and h2).imp fun {a b} ⟨h3, h4⟩ => ?_
  rcases sqLt_total h4 with h5 | h5
  · exact h5
  · unfold sqLe at h3; simp [h5] at h3
theorem sq_shpL (l : List (Int × Int)) : D.plL (l.map sq) = true ∧ D.depL (l.map sq) ≤ 1 := by
  induction l with
  | nil => exact ⟨rfl, by show (0 : Nat) ≤ 1; omega⟩
  | cons p l ih =>
    refine ⟨?_, ?_⟩
    · show ((sq p).pl && D.plL (l.map sq)) = true
      rw [ih.1]; rfl
    · show max (sq p).dep (D.depL (l.map sq)) ≤ 1
      have : (sq p).dep = 1 := rfl
      omega
theorem sort_sq (l : List (Int × Int)) : (l.map sq).mergeSort dLe = (sortSq l).map sq := by
  rw [sort_perm (ys := (sortSq l).map sq) ((sortSq_perm l).symm.map sq) (fun x hx y hy => ?_) (fun x hx => ?_)]
  · refine List.mergeSort_of_pairwise ?_
    refine List.Pairwise.map _ (fun a b h => ?_) (sortSq_le l)
    rw [sqLe_dLe]; exact h
  · rw [List.mem_map] at hx hy
    obtain ⟨a, _, rfl⟩ := hx
    obtain ⟨b, _, rfl⟩ := hy
    rfl
  · rw [List.mem_map] at hx
    obtain ⟨a, _, rfl⟩ := hx
    rfl
theorem v_sortedSq (l : List (Int × Int)) (h : l.length ≤ sizeLine) : sortedD [.lst (l.map sq)] = some (.lst ((sortSq l).map sq)) := by
  show (srtD (l.map sq)).map D.lst = _
  unfold srtD
  have h1 : aliAll (l.map sq) = true := by
    unfold aliAll
    rw [List.all_eq_true]
    intro x hx
    rw [List.all_eq_true]
    intro y hy
    rw [List.mem_map] at hx hy
    obtain ⟨a, _, rfl⟩ := hx
    obtain ⟨b, _, rfl⟩ := hy
    rfl
  have h2 : srtAll (l.map sq) = true := by
    unfold srtAll
    rw [Bool.or_eq_true]
    refine .inl ?_
    rw [List.all_eq_true]
    intro x hx
    rw [List.mem_map] at hx
    obtain ⟨a, _, rfl⟩ := hx
    rfl
  have h3 : lenOk (l.map sq) = true := by unfold lenOk; rw [List.length_map]; exact decide_eq_true h
  have h4 := sq_shpL l
  rw [if_pos (by rw [h1, h2, h3, h4.1]; simp only [Bool.true_and, decide_eq_true_eq]; omega)]
  show some (D.lst ((l.map sq).mergeSort dLe)) = _
  rw [sort_sq]
/-- two strictly ascending lists with the same members -/
theorem asc_ext : ∀ {l m : List (Int × Int)}, l.Pairwise sqLt → m.Pairwise sqLt → (∀ x, x ∈ l ↔ x ∈ m) → l = m
  | [], [], _, _, _ => rfl
  | [], y :: m, _, _, h => absurd ((h y).mpr (by simp)) (by simp)
  | x :: l, [], _, _, h => absurd ((h x).mp (by simp)) (by simp)
  | x :: l, y :: m, hl, hm, h => by
    have hl' := List.pairwise_cons.mp hl
    have hm' := List.pairwise_cons.mp hm
    have e : x = y := by
      rcases List.mem_cons.mp ((h x).mp (by simp)) with e | h1
      · exact e
      · rcases List.mem_cons.mp ((h y).mpr (by simp)) with e | h2
        · exact e.symm
        · exact absurd (hl'.1 y h2) (sqLt_asymm (hm'.1 x h1))
    subst e
    congr 1
    refine asc_ext hl'.2 hm'.2 fun z => ?_
    have hz := h z
    constructor
    · intro hz1
      rcases List.mem_cons.mp (hz.mp (List.mem_cons_of_mem _ hz1)) with e | h2
      · subst e; exact absurd (hl'.1 _ hz1) sqLt_irrefl
      · exact h2
    · intro hz1
      rcases List.mem_cons.mp (hz.mpr (List.mem_cons_of_mem _ hz1)) with e | h2
      · subst e; exact absurd (hm'.1 _ hz1) sqLt_irrefl
      · exact h2
theorem asc_nodup {l : List (Int × Int)} (h : l.Pairwise sqLt) : l.Nodup := h.imp fun {a b} h (e : a = b) => sqLt_irrefl (p := b) (by rw [e] at h; exact h)
theorem sortSq_asc {l : List (Int × Int)} (h : l.Pairwise sqLt) : sortSq l = l := List.mergeSort_of_pairwise (h.imp fun {a b} h => by unfold sqLe; simp [sqLt_asymm h])
/-- equal, of one make -/
theorem eqD_ali {x y : D} (hx : x.shp = true) (hy : y.shp = true) (ha : x.ali y = true) : ∃ b, eqD x y = some b ∧ (b = true ↔ x = y) := by
  refine ⟨x.eqv y, ?_, ?_⟩
  · unfold eqD; rw [hx, hy]; rfl
  · constructor
    · exact eq_of_eqv x y ha
    · rintro rfl
      unfold D.shp at hx
      rw [Bool.and_eq_true] at hx
      exact eqv_refl x hx.1
theorem sq_aliL : ∀ l m : List (Int × Int), D.aliL (l.map sq) (m.map sq) = true
  | [], _ => rfl
  | _ :: _, [] => rfl
  | p :: l, q :: m => by
    show ((sq p).ali (sq q) && D.aliL (l.map sq) (m.map sq)) = true
    rw [sq_aliL l m]; rfl
theorem sqs_shpT (l : List (Int × Int)) : (D.tup (l.map sq)).shp = true := by
  have h := sq_shpL l
  show (D.plL (l.map sq) && decide (D.depL (l.map sq) + 1 ≤ 60)) = true
  rw [h.1, Bool.true_and]; exact decide_eq_true (by omega)
theorem sqs_shp (l : List (Int × Int)) : (D.lst (l.map sq)).shp = true := sqs_shpT l
theorem map_sq_inj {l m : List (Int × Int)} : l.map sq = m.map sq ↔ l = m :=
  ⟨fun h => List.map_inj_right (f := sq) (fun x y h => sq_inj.mp h) |>.mp h, fun h => by rw [h]⟩
@[simp] theorem eqD_sqs (l m : List (Int × Int)) : eqD (.tup (l.map sq)) (.tup (m.map sq)) = some (decide (l = m)) := by
  obtain ⟨b, e, h⟩ := eqD_ali (sqs_shpT l) (sqs_shpT m) (sq_aliL l m)
  rw [e]
  congr 1
  rw [Bool.eq_iff_iff, h, decide_eq_true_eq, D.tup.injEq, map_sq_inj]
@[simp] theorem eqD_sqsL (l m : List (Int × Int)) : eqD (.lst (l.map sq)) (.lst (m.map sq)) = some (decide (l = m)) := by
  obtain ⟨b, e, h⟩ := eqD_ali (sqs_shp l) (sqs_shp m) (sq_aliL l m)
  rw [e]
  congr 1
  rw [Bool.eq_iff_iff, h, decide_eq_true_eq, D.lst.injEq, map_sq_inj]
@[simp] theorem eqD_sqs0 (l : List (Int × Int)) : eqD (.lst (l.map sq)) (.lst []) = some (decide (l = [])) := eqD_sqsL l []
@[simp] theorem eq_bl (a b : Bool) : eqD (.bl a) (.bl b) = some (decide (a = b)) := by cases a <;> cases b <;> rfl
theorem filter_self {α : Type} (p : α → Bool) (l : List α) : l.filter p = l ↔ l.all p = true := by
  rw [List.filter_eq_self, List.all_eq_true]
end Pw

set_option maxRecDepth 100000
/-! Pv.B3: boards and their signs in the evaluator. -/
namespace Pw
open PySem Pv
section
variable {R C : Nat} {f : Int → Int → Bool} {g : Int → Bool} {i j : Int} {sh : List D}
def ch (b : Bool) : Str := ⟨#[sg b]⟩
@[simp] theorem isi_bd (t : Ty) : isiD t [bd R C f] = some (.bl (t == .tuple)) := id rfl
@[simp] theorem len_bd : lenD [bd R C f] = some (.int R) := by
  show some (D.int ((bdl R C f).length : Nat)) = _
  rw [bdl_len]
@[simp] theorem idx_bd (h : 0 ≤ i) (h2 : i < R) : idxD sh (bd R C f) (.int i) = some (.str (ln C (f i))) := by
  show atD (bdl R C f) i = _
  exact atD_rng h h2
@[simp] theorem idx_ln (h : 0 ≤ i) (h2 : i < C) (h3 : C ≤ 16777216) : idxD sh (.str (ln C g)) (.int i) = some (.str (ch (g i))) := by
  show (if (ln C g).length ≤ sizeLine then _ else _) = _
  rw [if_pos (by simpa using h3), ln_list, atD_rng h h2]
  rfl
@[simp] theorem walk_bd : walkD (bd R C f) = some ((rng R).map fun r => .str (ln C (f r))) := id rfl
@[simp ↓] theorem walk_ln : walkD (.str (ln C g)) = some ((rng C).map fun c => .str (ch (g c))) := by
  rw [w_str, ln_list, List.map_map]; rfl
theorem bdl_rev : (bdl R C f).reverse = bdl R C fun r c => f ((R : Int) - 1 - r) c := by
  unfold bdl
  rw [← List.map_reverse, rng_rev, List.map_map]; rfl
@[simp] theorem rev_bd : revD (bd R C f) = some (bd R C fun r c => f ((R : Int) - 1 - r) c) := by
  show some (D.tup (bdl R C f).reverse) = _
  rw [bdl_rev]; rfl
@[simp ↓] theorem rev_ln (h3 : C ≤ 16777216) : revD (.str (ln C g)) = some (.str (ln C fun c => g ((C : Int) - 1 - c))) := by
  rw [rv_str _ (by simpa using h3), ln_list, ← List.map_reverse, rng_rev, List.map_map]; rfl
@[simp] theorem tuple_bd : tupleD [bd R C f] = some (bd R C f) := id rfl
def bdL (R C : Nat) (f : Int → Int → Bool) : D := .lst (bdl R C f)
@[simp] theorem list_bd : listD [bd R C f] = some (bdL R C f) := id rfl
@[simp] theorem tuple_bdL : tupleD [bdL R C f] = some (bd R C f) := id rfl
@[simp] theorem fold_bdL : D.lst ((rng R).map fun r => D.str (ln C (f r))) = bdL R C f := id rfl
@[simp] theorem fold_bd : D.tup ((rng R).map fun r => D.str (ln C (f r))) = bd R C f := id rfl
@[simp] theorem rev_bdL : revD (bdL R C f) = some (bdL R C fun r c => f ((R : Int) - 1 - r) c) := by
  show some (D.lst (bdl R C f).reverse) = _
  rw [bdl_rev]; rfl
@[simp] theorem walk_bdL : walkD (bdL R C f) = some ((rng R).map fun r => .str (ln C (f r))) := id rfl
@[simp] theorem len_bdL : lenD [bdL R C f] = some (.int R) := by
  show some (D.int ((bdl R C f).length : Nat)) = _
  rw [bdl_len]
@[simp] theorem idx_bdL (h : 0 ≤ i) (h2 : i < R) : idxD sh (bdL R C f) (.int i) = some (.str (ln C (f i))) := by
  show atD (bdl R C f) i = _
  exact atD_rng h h2
theorem ln_snoc {k : Nat} {b : Bool} : ln k g ++ ch b = ln (k + 1) fun c => if c = k then b else g c := by
  have hr : rng (k + 1) = rng k ++ [(k : Int)] := by unfold rng; rw [List.range_succ, List.map_append]; rfl
  have e : (ln k g ++ ch b).cps.toList = (ln (k + 1) fun c => if c = k then b else g c).cps.toList := by
    rw [ln_list, hr, List.map_append]
    show ((ln k g).cps ++ #[sg b]).toList = _
    rw [Array.toList_append, ln_list]
    congr 1
    · exact map_rng_congr fun c _ h1 => by rw [if_neg (by omega)]
    · simp
  have := Array.toList_inj.mp e
  generalize ln k g ++ ch b = x at this ⊢
  generalize (ln (k + 1) fun c => if c = k then b else g c) = y at this ⊢
  cases x; cases y
  simpa using this
theorem bdl_snoc {k : Nat} : bdl k C f ++ [.str (ln C g)] = bdl (k + 1) C fun r => if r = k then g else f r := by
  have hr : rng (k + 1) = rng k ++ [(k : Int)] := by unfold rng; rw [List.range_succ, List.map_append]; rfl
  unfold bdl
  rw [hr, List.map_append]
  congr 1
  · exact map_rng_congr fun c _ h1 => by
      show D.str (ln C (f c)) = D.str (ln C (if c = k then g else f c))
      rw [if_neg (by omega)]
  · simp
theorem rng_app {α : Type} (a b : Nat) (F G : Int → α) : (rng a).map F ++ (rng b).map G = (rng (a + b)).map fun (i : Int) => if i < (a : Int) then F i else G (i - (a : Int)) := by
  refine List.ext_getElem? fun j => ?_
  rw [List.getElem?_map]
  by_cases h : j < a
  · rw [List.getElem?_append_left (by simpa using h), List.getElem?_map, rng_get h, rng_get (by omega)]
    show some (F j) = some (if (j : Int) < a then _ else _)
    rw [if_pos (by omega)]
  · rw [List.getElem?_append_right (by simp; omega), List.getElem?_map]
    by_cases h2 : j < a + b
    · rw [List.length_map, rng_len, rng_get (by omega), rng_get h2]
      show some (G ((j - a : Nat) : Int)) = some (if (j : Int) < a then _ else _)
      rw [if_neg (by omega)]
      congr 2; omega
    · rw [List.getElem?_eq_none (by simp; omega), List.getElem?_eq_none (by simp; omega)]; rfl
theorem bd_add {R' : Nat} {f' : Int → Int → Bool} (h : R + R' ≤ 16777216) : binD .Add (bd R C f) (bd R' C f') = some (bd (R + R') C fun r => if r < (R : Int) then f r else f' (r - (R : Int))) := by
  show binD .Add (.tup (bdl R C f)) (.tup (bdl R' C f')) = _
  rw [b_addt _ _ (by rw [bdl_len, bdl_len]; exact h)]
  unfold bd bdl
  rw [rng_app]
  congr 2
  exact map_rng_congr fun r _ _ => by
    show (if r < (R : Int) then D.str (ln C (f r)) else D.str (ln C (f' (r - R)))) = D.str (ln C (if r < (R : Int) then f r else f' (r - R)))
    split <;> rfl
theorem ln_add {m : Nat} {g' : Int → Bool} (h : C + m ≤ 16777216) : binD .Add (.str (ln C g)) (.str (ln m g')) = some (.str (ln (C + m) fun c => if c < (C : Int) then g c else g' (c - (C : Int)))) := by
  rw [b_adds _ _ (by rw [ln_len, ln_len]; exact h)]
  congr 2
  have e : (ln C g ++ ln m g').cps.toList = (ln (C + m) fun c => if c < (C : Int) then g c else g' (c - (C : Int))).cps.toList := by
    rw [ln_list]
    show ((ln C g).cps ++ (ln m g').cps).toList = _
    rw [Array.toList_append, ln_list, ln_list, rng_app]
    exact map_rng_congr fun c _ _ => by
      show (if c < (C : Int) then sg (g c) else sg (g' (c - C))) = sg (if c < (C : Int) then g c else g' (c - C))
      split <;> rfl
  have := Array.toList_inj.mp e
  generalize ln C g ++ ln m g' = x at this ⊢
  generalize (ln (C + m) fun c => if c < (C : Int) then g c else g' (c - (C : Int))) = y at this ⊢
  cases x; cases y
  simpa using this
theorem ln_nil : ("" : Str) = ln 0 g := by
  show ("" : Str) = ⟨#[]⟩
  decide
theorem rng_split {n : Nat} {p q : List Int} {x : Int} (h : p ++ x :: q = rng n) : x = p.length ∧ p.length < n := by
  have hl := congrArg List.length h
  simp at hl
  have h2 : (p ++ x :: q)[p.length]? = (rng n)[p.length]? := by rw [h]
  rw [rng_get (by omega), List.getElem?_append_right (Nat.le_refl _)] at h2
  simp at h2
  exact ⟨h2, by omega⟩
@[simp] theorem ch_dot (b : Bool) : (ch b = ".") ↔ b = true := by cases b <;> decide
@[simp] theorem dot_ch (b : Bool) : ("." = ch b) ↔ b = true := by cases b <;> decide
@[simp] theorem ch_hole (b : Bool) : (ch b = "#") ↔ b = false := by cases b <;> decide
@[simp] theorem ch_inj (a b : Bool) : (ch a = ch b) ↔ a = b := by cases a <;> cases b <;> decide
theorem ch_in (b : Bool) : inD (.str (ch b)) (.str (("." : Str) ++ ("#" : Str))) = some true := by cases b <;> decide +kernel
@[simp] theorem ln_eq (C C' : Nat) (g g' : Int → Bool) : eqD (.str (ln C g)) (.str (ln C' g')) = some (decide (ln C g = ln C' g')) := eq_str _ _
@[simp] theorem isi_sq (t : Ty) (p : Int × Int) : isiD t [sq p] = some (.bl (t == .tuple)) := id rfl
@[simp] theorem len_sq (p : Int × Int) : lenD [sq p] = some (.int 2) := id rfl
@[simp] theorem idx_sq0 (p : Int × Int) : idxD sh (sq p) (.int 0) = some (.int p.1) := id rfl
@[simp] theorem idx_sq1 (p : Int × Int) : idxD sh (sq p) (.int 1) = some (.int p.2) := id rfl
@[simp] theorem len_dot : ("." : Str).length = 1 := by decide
@[simp] theorem len_hole : ("#" : Str).length = 1 := by decide
@[simp] theorem len_none : ("" : Str).length = 0 := by decide
@[simp] theorem len_ch (b : Bool) : (ch b).length = 1 := id rfl
theorem bdF {R C : Nat} (h : BdOk R C) : 0 < R ∧ 0 < C ∧ R ≤ 16777216 ∧ C ≤ 16777216 ∧ R ≤ 24 ∧ C ≤ 24 ∧ (1 : Int) ≤ R ∧ (R : Int) ≤ 24 ∧ (1 : Int) ≤ C ∧ (C : Int) ≤ 24 := by unfold BdOk at h; omega
@[simp] theorem if_bd (c : Prop) [Decidable c] (f' : Int → Int → Bool) : (if c then bd R C f else bd R C f') = bd R C (fun r x => if c then f r x else f' r x) := by split <;> rfl
@[simp] theorem if_sq (c : Prop) [Decidable c] (p q : Int × Int) : (if c then sq p else sq q) = sq (if c then p else q) := by split <;> rfl
theorem bd_shp : (bd R C f).shp = true := by
  have h : ∀ l : List Int, D.plL (l.map fun r => D.str (ln C (f r))) = true ∧ D.depL (l.map fun r => D.str (ln C (f r))) = 0 := by
    intro l
    induction l with
    | nil => exact ⟨rfl, rfl⟩
    | cons r l ih =>
      refine ⟨?_, ?_⟩
      · show (true && D.plL _) = true
        rw [ih.1]; rfl
      · show max 0 (D.depL _) = 0
        rw [ih.2]; rfl
  have := h (rng R)
  show (D.plL (bdl R C f) && decide (D.depL (bdl R C f) + 1 ≤ 60)) = true
  unfold bdl
  rw [this.1, this.2]; rfl
theorem bdl_ali {R' C' : Nat} {f' : Int → Int → Bool} : D.aliL (bdl R C f) (bdl R' C' f') = true := by
  have h : ∀ l m : List Int, D.aliL (l.map fun r => D.str (ln C (f r))) (m.map fun r => D.str (ln C' (f' r))) = true := by
    intro l
    induction l with
    | nil => intro m; rfl
    | cons r l ih =>
      intro m
      cases m with
      | nil => rfl
      | cons q m =>
        show (true && D.aliL _ _) = true
        rw [ih m]; rfl
  exact h _ _
theorem bd_ali {R' C' : Nat} {f' : Int → Int → Bool} : (bd R C f).ali (bd R' C' f') = true := bdl_ali
/-- joined signs -/
theorem join_ch (n : Nat) (g : Int → Bool) : Txt.join "" ((rng n).map fun c => ch (g c)) = ln n g := by
  have h : ∀ l : List Bool, Txt.join ("" : Str) (l.map ch) = ⟨(l.map sg).toArray⟩ := by
    intro l
    have hf : ∀ (m : List Bool) (acc : Array Nat), (m.map ch).foldl (fun acc p => acc ++ ("" : Str).cps ++ p.cps) acc = acc ++ (m.map sg).toArray := by
      intro m
      induction m with
      | nil => intro acc; simp
      | cons b m ih =>
        intro acc
        rw [List.map_cons, List.foldl_cons, ih]
        refine Array.toList_inj.mp ?_
        have e : ("" : Str).cps = #[] := by decide
        rw [e]
        show _ = _
        simp [ch]
    cases l with
    | nil => rfl
    | cons b l =>
      show (⟨((l.map ch)).foldl (fun acc p => acc ++ ("" : Str).cps ++ p.cps) (ch b).cps⟩ : Str) = _
      rw [hf]
      congr 1
      refine Array.toList_inj.mp ?_
      simp [ch]
  have := h ((rng n).map g)
  rw [List.map_map, List.map_map] at this
  exact this
theorem v_join (n : Nat) (h : n ≤ 16777216) (g : Int → Bool) : joinD [.str "", .lst ((rng n).map fun c => .str (ch (g c)))] = some (.str (ln n g)) := by
  show (strsOf _).bind _ = _
  rw [show ((rng n).map fun c => D.str (ch (g c))) = ((rng n).map fun c => ch (g c)).map .str by rw [List.map_map]; rfl, strsOf_map]
  show (if decide _ = true then _ else _) = _
  rw [join_ch, if_pos]
  refine decide_eq_true ?_
  rw [List.map_map, len_none, Nat.mul_zero, Nat.add_zero]
  have : ((rng n).map (Str.length ∘ fun c => ch (g c))) = List.replicate n 1 := by
    rw [show (Str.length ∘ fun c => ch (g c)) = fun _ => 1 from rfl, List.map_const', rng_len]
  rw [show ((fun s => s.length) ∘ fun c => ch (g c)) = fun _ : Int => 1 from rfl, List.map_const', rng_len, List.sum_replicate_nat]
  omega
end
/-! kinds in the evaluator -/
section
variable (k : Kd)
def kLines : Kd → Bool
  | .tower => true
  | .runner => true
  | .queen => true
  | _ => false
def kStr : Kd → Bool
  | .leap _ _ => false
  | _ => true
@[simp] theorem isi_kd : isiD .str [kd k] = some (.bl (kStr k)) := by cases k <;> rfl
@[simp] theorem kd_king : eqD (kd k) (.str "king") = some (decide (k = .king)) := by cases k <;> first | decide +kernel | rfl
@[simp] theorem kd_runner : eqD (kd k) (.str "runner") = some (decide (k = .runner)) := by cases k <;> first | decide +kernel | rfl
@[simp] theorem kd_tower : eqD (kd k) (.str "tower") = some (decide (k = .tower)) := by cases k <;> first | decide +kernel | rfl
@[simp] theorem kd_queen : eqD (kd k) (.str "queen") = some (decide (k = .queen)) := by cases k <;> first | decide +kernel | rfl
@[simp] theorem kd_lines : inD (kd k) (.tup [.str "tower", .str "runner", .str "queen"]) = some (kLines k) := by cases k <;> first | decide +kernel | rfl
@[simp] theorem kd_names : inD (kd k) (.tup [.str "tower", .str "runner", .str "queen", .str "king"]) = some (kStr k) := by cases k <;> first | decide +kernel | rfl
@[simp] theorem kd_leap (a b : Int) : eqD (.tup [.int a, .int b]) (kd k) = some (decide (k = .leap a b)) := by
  cases k with
  | leap x y =>
    rw [show kd (.leap x y) = .tup [.int x, .int y] from rfl, eq_sq]
    congr 1
    rw [decide_eq_decide]
    constructor
    · rintro ⟨rfl, rfl⟩; rfl
    · intro h; cases h; exact ⟨rfl, rfl⟩
  | _ => rfl
theorem kd_tup {k : Kd} (h : kStr k = false) : ∃ a b, k = .leap a b := by
  cases k with
  | leap a b => exact ⟨a, b, rfl⟩
  | _ => cases h
end
end Pw

set_option maxRecDepth 100000
/-! Pv.B4: sets of boards. -/
namespace Pw
open PySem Pv
theorem ded_spec {ds : List D} : ∀ {acc : List D} (hn : acc.Nodup) (he : ∀ x ∈ acc ++ ds, ∀ y ∈ acc ++ ds, x.eqv y = true ↔ x = y), (dedD acc ds).Nodup ∧ ∀ x, x ∈ dedD acc ds ↔ x ∈ acc ∨ x ∈ ds := by
  induction ds with
  | nil => intro acc hn he; exact ⟨hn, fun x => by simp [dedD]⟩
  | cons d ds ih =>
    intro acc hn he
    show (dedD (if acc.any (fun x => x.eqv d) then acc else acc ++ [d]) ds).Nodup ∧ ∀ x, x ∈ dedD (if acc.any (fun x => x.eqv d) then acc else acc ++ [d]) ds ↔ _
    by_cases h : acc.any (fun x => x.eqv d) = true
    · rw [if_pos h]
      obtain ⟨x0, hx0, hd⟩ := List.any_eq_true.mp h
      have e := (he x0 (by simp [hx0]) d (by simp)).mp hd
      subst e
      obtain ⟨h1, h2⟩ := ih hn fun x hx y hy => he x (by simp at hx ⊢; rcases hx with hx | hx <;> simp [hx]) y (by simp at hy ⊢; rcases hy with hy | hy <;> simp [hy])
      refine ⟨h1, fun x => ?_⟩
      rw [h2]
      constructor
      · rintro (hx | hx)
        · exact .inl hx
        · exact .inr (by simp [hx])
      · rintro (hx | hx)
        · exact .inl hx
        · rcases List.mem_cons.mp hx with rfl | hx
          · exact .inl hx0
          · exact .inr hx
    · rw [if_neg h]
      have hd : d ∉ acc := fun hm => h (List.any_eq_true.mpr ⟨d, hm, (he d (by simp) d (by simp)).mpr rfl⟩)
      obtain ⟨h1, h2⟩ := ih (acc := acc ++ [d]) (by
        rw [List.nodup_append]
        refine ⟨hn, by simp, ?_⟩
        intro a ha b hb e
        rw [List.mem_singleton] at hb
        exact hd (by rw [← hb, ← e]; exact ha)) fun x hx y hy => he x (by simpa using hx) y (by simpa using hy)
      refine ⟨h1, fun x => ?_⟩
      rw [h2]
      simp [or_assoc]
def IsBd (d : D) : Prop := ∃ R C f, 0 < R ∧ d = bd R C f
theorem IsBd.shp {d : D} (h : IsBd d) : d.shp = true := by obtain ⟨R, C, f, _, rfl⟩ := h; exact bd_shp
theorem IsBd.pl {d : D} (h : IsBd d) : d.pl = true := by
  have := h.shp
  unfold D.shp at this
  rw [Bool.and_eq_true] at this
  exact this.1
theorem IsBd.ali {d e : D} (h : IsBd d) (h' : IsBd e) : d.ali e = true := by
  obtain ⟨R, C, f, _, rfl⟩ := h
  obtain ⟨R', C', f', _, rfl⟩ := h'
  exact bd_ali
theorem IsBd.eqv {d e : D} (h : IsBd d) (h' : IsBd e) : d.eqv e = true ↔ d = e :=
  ⟨eq_of_eqv d e (h.ali h'), fun z => z ▸ eqv_refl d h.pl⟩
theorem bd_hsh {R C : Nat} {f : Int → Int → Bool} : (bd R C f).hsh = true ∧ (bd R C f).dep = 1 := by
  have h : ∀ l : List Int, D.hshL (l.map fun r => D.str (ln C (f r))) = true ∧ D.depL (l.map fun r => D.str (ln C (f r))) = 0 := by
    intro l
    induction l with
    | nil => exact ⟨rfl, rfl⟩
    | cons r l ih =>
      refine ⟨?_, ?_⟩
      · show (true && D.hshL _) = true
        rw [ih.1]; rfl
      · show max 0 (D.depL _) = 0
        rw [ih.2]; rfl
  exact ⟨(h (rng R)).1, by show D.depL (bdl R C f) + 1 = 1; unfold bdl; rw [(h (rng R)).2]⟩
theorem bds_set {ds : List D} (h : ∀ d ∈ ds, IsBd d) (hl : ds.length < 64) : setOk ds = true := by
  unfold setOk
  rw [Bool.and_eq_true, Bool.and_eq_true]
  refine ⟨⟨?_, decide_eq_true hl⟩, ?_⟩
  · unfold aliAll
    rw [List.all_eq_true]; intro x hx
    rw [List.all_eq_true]; intro y hy
    exact (h x hx).ali (h y hy)
  · rw [List.all_eq_true]; intro x hx
    have hp := (h x hx).pl
    obtain ⟨R, C, f, _, rfl⟩ := h x hx
    rw [bd_hsh.1, hp, bd_hsh.2]; rfl
theorem bds_shpL : ∀ {ds : List D}, (∀ d ∈ ds, IsBd d) → D.plL ds = true ∧ D.depL ds ≤ 1
  | [], _ => ⟨rfl, by show 0 ≤ 1; omega⟩
  | d :: ds, h => by
    have ih := bds_shpL (ds := ds) fun x hx => h x (by simp [hx])
    have hp := (h d (by simp)).pl
    obtain ⟨R, C, f, _, rfl⟩ := h d (by simp)
    refine ⟨?_, ?_⟩
    · show (D.pl _ && D.plL ds) = true
      rw [hp, ih.1]; rfl
    · show max (D.dep _) (D.depL ds) ≤ 1
      rw [bd_hsh.2]; omega
theorem bds_srt {ds : List D} (h : ∀ d ∈ ds, IsBd d) (hl : ds.length ≤ sizeLine) : srtD ds = some (ds.mergeSort dLe) := by
  unfold srtD
  have h1 : aliAll ds = true := by
    unfold aliAll
    rw [List.all_eq_true]; intro x hx
    rw [List.all_eq_true]; intro y hy
    exact (h x hx).ali (h y hy)
  have h2 : srtAll ds = true := by
    unfold srtAll
    rw [Bool.or_eq_true]
    refine .inl ?_
    rw [List.all_eq_true]; intro x hx
    obtain ⟨R, C, f, hR, rfl⟩ := h x hx
    obtain ⟨m, rfl⟩ : ∃ m, R = m + 1 := ⟨R - 1, by omega⟩
    obtain ⟨l, e⟩ := rng_cons m
    show (match (D.tup (bdl (m + 1) C f)) with | .tup (_ :: _) => true | _ => false) = true
    unfold bdl
    rw [e]; rfl
  have h4 := bds_shpL h
  rw [if_pos (by rw [h1, h2, h4.1]; simp only [lenOk, Bool.true_and, Bool.and_true, Bool.and_eq_true, decide_eq_true_eq]; exact ⟨hl, by omega⟩)]
/-- unlike boards, in order -/
noncomputable def ordB (ds : List D) : List D := (dedD [] ds).mergeSort dLe
theorem ordB_spec {ds : List D} (h : ∀ d ∈ ds, IsBd d) : (ordB ds).Nodup ∧ ∀ x, x ∈ ordB ds ↔ x ∈ ds := by
  obtain ⟨h1, h2⟩ := ded_spec (ds := ds) (acc := []) List.nodup_nil (fun x hx y hy => (h x (by simpa using hx)).eqv (h y (by simpa using hy)))
  have hp := List.mergeSort_perm (dedD [] ds) dLe
  refine ⟨hp.nodup_iff.mpr h1, fun x => ?_⟩
  unfold ordB
  rw [hp.mem_iff, h2]; simp
theorem ordB_ext {ds es : List D} (h : ∀ d ∈ ds, IsBd d) (hm : ∀ x, x ∈ ds ↔ x ∈ es) : ordB ds = ordB es := by
  have h' : ∀ d ∈ es, IsBd d := fun d hd => h d ((hm d).mpr hd)
  obtain ⟨h1, h2⟩ := ded_spec (ds := ds) (acc := []) List.nodup_nil (fun x hx y hy => (h x (by simpa using hx)).eqv (h y (by simpa using hy)))
  obtain ⟨h3, h4⟩ := ded_spec (ds := es) (acc := []) List.nodup_nil (fun x hx y hy => (h' x (by simpa using hx)).eqv (h' y (by simpa using hy)))
  have hp : (dedD [] ds).Perm (dedD [] es) := (List.perm_ext_iff_of_nodup h1 h3).mpr fun x => by rw [h2, h4]; simp [hm]
  have hb : ∀ x ∈ dedD [] ds, IsBd x := fun x hx => h x (by simpa using (h2 x).mp hx)
  exact sort_perm hp (fun x hx y hy => (hb x hx).ali (hb y hy)) (fun x hx => (hb x hx).pl)
theorem ordB_len {ds : List D} (h : ∀ d ∈ ds, IsBd d) {ms : List D} (hn : ms.Nodup) (hm : ∀ x, x ∈ ds ↔ x ∈ ms) : (ordB ds).length = ms.length := by
  obtain ⟨h1, h2⟩ := ordB_spec h
  exact ((List.perm_ext_iff_of_nodup h1 hn).mpr fun x => by rw [h2, hm]).length_eq
theorem ded_len : ∀ (ds acc : List D), (dedD acc ds).length ≤ acc.length + ds.length
  | [], acc => by simp [dedD]
  | d :: ds, acc => by
    show (dedD (if acc.any (fun x => x.eqv d) then acc else acc ++ [d]) ds).length ≤ _
    refine Nat.le_trans (ded_len ds _) ?_
    split
    · simp
    · simp; omega
theorem sortSet_bds {ds : List D} (h : ∀ d ∈ ds, IsBd d) (hl : ds.length < 64) : sortSetD [.lst ds] = some (.lst (ordB ds)) := by
  show (if setOk ds = true then _ else _) = _
  rw [if_pos (bds_set h hl)]
  have h2 := (ded_spec (ds := ds) (acc := []) List.nodup_nil (fun x hx y hy => (h x (by simpa using hx)).eqv (h y (by simpa using hy)))).2
  rw [bds_srt (fun d hd => h d (by simpa using (h2 d).mp hd)) (by have := ded_len ds []; simp at this; rw [sz_line]; omega)]
  exact rfl
theorem keysOf_map {α : Type} (g : α → D) (v : α → D) : ∀ l : List α, keysOf (l.map fun x => .tup [g x, v x]) = some (l.map g)
  | [] => rfl
  | x :: l => by
    show (keysOf (l.map fun x => .tup [g x, v x])).map _ = _
    rw [keysOf_map g v l]; rfl
theorem sortDict_bds {α : Type} {g v : α → D} {l : List α} (h : ∀ x ∈ l, IsBd (g x)) (hl : l.length < 64) : sortDictD [.lst (l.map fun x => .tup [g x, v x])] = some (.lst (ordB (l.map g))) := by
  show (keysOf _).bind _ = _
  rw [keysOf_map]
  exact sortSet_bds (ds := l.map g) (fun d hd => by obtain ⟨x, hx, rfl⟩ := List.mem_map.mp hd; exact h x hx) (by simpa using hl)
end Pw

set_option maxRecDepth 100000
namespace Law
open PySem Pv Pw
abbrev WH : Nat := 1000000
abbrev n_is_integer : Nat := 0
def b_is_integer : Fn := ⟨1, 1,
  (.cons (.ret (.and (.bi (.isi .int) (.cons (.loc 0) .nil)) (.not (.bi (.isi .bool) (.cons (.loc 0) .nil)))))
  .nil)⟩
abbrev n_is_whole : Nat := 1
def b_is_whole : Fn := ⟨3, 3,
  (.cons (.ret (.and (.call 0 (.cons (.loc 0) .nil)) (.chain .LtE .LtE (.loc 1) (.loc 0) (.loc 2))))
  .nil)⟩
abbrev n_need_whole : Nat := 2
def b_need_whole : Fn := ⟨3, 3,
  (.cons (.iff (.not (.call 1 (.cons (.loc 0) (.cons (.loc 1) (.cons (.loc 2) .nil)))))
  (.cons .raise
  .nil)
  .nil)
  .nil)⟩
abbrev n_is_tuple_of : Nat := 3
def b_is_tuple_of : Fn := ⟨3, 3,
  (.cons (.ret (.and (.bi (.isi .tuple) (.cons (.loc 0) .nil)) (.chain .LtE .LtE (.loc 1) (.bi .len (.cons (.loc 0) .nil)) (.loc 2))))
  .nil)⟩
abbrev n_is_rising : Nat := 4
def b_is_rising : Fn := ⟨1, 3,
  (.cons (.ret (.bi .all (.cons (.comp (.cmp .Lt (.loc 1) (.loc 2)) (.tp [(.nm 1), (.nm 2)]) (.zip (.loc 0) (.slc (.loc 0) (.some (.con (.int 1))) .none)) .none [1, 2]) .nil)))
  .nil)⟩
abbrev n_is_word : Nat := 5
def b_is_word : Fn := ⟨4, 5,
  (.cons (.ret (.and (.bi (.isi .str) (.cons (.loc 0) .nil)) (.and (.chain .LtE .LtE (.loc 2) (.bi .len (.cons (.loc 0) .nil)) (.loc 3)) (.bi .all (.cons (.comp (.cmp .In (.loc 4) (.loc 1)) (.nm 4) (.each (.loc 0)) .none [4]) .nil)))))
  .nil)⟩
abbrev n_is_pair_in : Nat := 6
def b_is_pair_in : Fn := ⟨3, 3,
  (.cons (.ret (.and (.call 3 (.cons (.loc 0) (.cons (.con (.int 2)) (.cons (.con (.int 2)) .nil)))) (.and (.call 1 (.cons (.idx (.loc 0) (.con (.int 0))) (.cons (.con (.int 0)) (.cons (.bin .Sub (.loc 1) (.con (.int 1))) .nil)))) (.call 1 (.cons (.idx (.loc 0) (.con (.int 1))) (.cons (.con (.int 0)) (.cons (.bin .Sub (.loc 2) (.con (.int 1))) .nil)))))))
  .nil)⟩
abbrev n_fits_board : Nat := 7
def b_fits_board : Fn := ⟨1, 2,
  (.cons (.iff (.or (.not (.call 3 (.cons (.loc 0) (.cons (.con (.int 1)) (.cons (.glob 0) .nil))))) (.not (.bi .all (.cons (.comp (.call 5 (.cons (.loc 1) (.cons (.bin .Add (.glob 3) (.glob 4)) (.cons (.con (.int 1)) (.cons (.glob 0) .nil))))) (.nm 1) (.each (.loc 0)) .none [1]) .nil))))
  (.cons (.ret (.con (.bl false)))
  .nil)
  .nil)
  (.cons (.ret (.bi .all (.cons (.comp (.cmp .Eq (.bi .len (.cons (.loc 1) .nil)) (.bi .len (.cons (.idx (.loc 0) (.con (.int 0))) .nil))) (.nm 1) (.each (.loc 0)) .none [1]) .nil)))
  .nil))⟩
abbrev n_need_board : Nat := 8
def b_need_board : Fn := ⟨1, 1,
  (.cons (.iff (.not (.call 7 (.cons (.loc 0) .nil)))
  (.cons .raise
  .nil)
  .nil)
  .nil)⟩
abbrev n_fits_kind : Nat := 9
def b_fits_kind : Fn := ⟨1, 1,
  (.cons (.iff (.bi (.isi .str) (.cons (.loc 0) .nil))
  (.cons (.ret (.cmp .In (.loc 0) (.glob 6)))
  .nil)
  .nil)
  (.cons (.ret (.and (.call 3 (.cons (.loc 0) (.cons (.con (.int 2)) (.cons (.con (.int 2)) .nil)))) (.and (.call 1 (.cons (.idx (.loc 0) (.con (.int 0))) (.cons (.glob 1) (.cons (.glob 2) .nil)))) (.call 1 (.cons (.idx (.loc 0) (.con (.int 1))) (.cons (.con (.int 0)) (.cons (.idx (.loc 0) (.con (.int 0))) .nil)))))))
  .nil))⟩
abbrev n_need_kind : Nat := 10
def b_need_kind : Fn := ⟨1, 1,
  (.cons (.iff (.not (.call 9 (.cons (.loc 0) .nil)))
  (.cons .raise
  .nil)
  .nil)
  .nil)⟩
abbrev n_squares_in : Nat := 11
def b_squares_in : Fn := ⟨1, 6,
  (.cons (.set 1 (.lst .nil))
  (.cons (.for (.tp [(.nm 2), (.nm 3)]) (.enum (.loc 0))
  (.cons (.set 1 (.bin .Add (.loc 1) (.comp (.tup (.cons (.loc 2) (.cons (.loc 4) .nil))) (.tp [(.nm 4), (.nm 5)]) (.enum (.loc 3)) (.some (.cmp .Eq (.loc 5) (.glob 3))) [4, 5])))
  .nil))
  (.cons (.ret (.bi .tuple (.cons (.loc 1) .nil)))
  .nil)))⟩
abbrev n_is_square_of : Nat := 12
def b_is_square_of : Fn := ⟨2, 2,
  (.cons (.ret (.and (.call 6 (.cons (.loc 1) (.cons (.bi .len (.cons (.loc 0) .nil)) (.cons (.bi .len (.cons (.idx (.loc 0) (.con (.int 0))) .nil)) .nil)))) (.cmp .Eq (.idx (.idx (.loc 0) (.idx (.loc 1) (.con (.int 0)))) (.idx (.loc 1) (.con (.int 1)))) (.glob 3))))
  .nil)⟩
abbrev n_fits_placed : Nat := 13
def b_fits_placed : Fn := ⟨2, 3,
  (.cons (.ret (.and (.bi (.isi .tuple) (.cons (.loc 1) .nil)) (.and (.bi .all (.cons (.comp (.call 12 (.cons (.loc 0) (.cons (.loc 2) .nil))) (.nm 2) (.each (.loc 1)) .none [2]) .nil)) (.call 4 (.cons (.loc 1) .nil)))))
  .nil)⟩
abbrev n_need_placed : Nat := 14
def b_need_placed : Fn := ⟨2, 2,
  (.cons (.iff (.not (.call 13 (.cons (.loc 0) (.cons (.loc 1) .nil))))
  (.cons .raise
  .nil)
  .nil)
  .nil)⟩
abbrev n_takes : Nat := 15
def b_takes : Fn := ⟨3, 7,
  (.cons (.unp [(.nm 3), (.nm 4)] (.tup (.cons (.bi .abs (.cons (.bin .Sub (.idx (.loc 1) (.con (.int 0))) (.idx (.loc 2) (.con (.int 0)))) .nil)) (.cons (.bi .abs (.cons (.bin .Sub (.idx (.loc 1) (.con (.int 1))) (.idx (.loc 2) (.con (.int 1)))) .nil)) .nil))))
  (.cons (.iff (.and (.cmp .Eq (.loc 3) (.con (.int 0))) (.cmp .Eq (.loc 4) (.con (.int 0))))
  (.cons (.ret (.con (.bl false)))
  .nil)
  .nil)
  (.cons (.iff (.cmp .Eq (.loc 0) (.con (.str "king")))
  (.cons (.ret (.and (.cmp .LtE (.loc 3) (.con (.int 1))) (.cmp .LtE (.loc 4) (.con (.int 1)))))
  .nil)
  .nil)
  (.cons (.iff (.cmp .In (.loc 0) (.glob 5))
  (.cons (.unp [(.nm 5), (.nm 6)] (.tup (.cons (.or (.cmp .Eq (.loc 3) (.con (.int 0))) (.cmp .Eq (.loc 4) (.con (.int 0)))) (.cons (.cmp .Eq (.loc 3) (.loc 4)) .nil))))
  (.cons (.ret (.or (.and (.loc 5) (.cmp .NotEq (.loc 0) (.con (.str "runner")))) (.and (.loc 6) (.cmp .NotEq (.loc 0) (.con (.str "tower"))))))
  .nil))
  .nil)
  (.cons (.ret (.or (.cmp .Eq (.tup (.cons (.loc 3) (.cons (.loc 4) .nil))) (.loc 0)) (.cmp .Eq (.tup (.cons (.loc 4) (.cons (.loc 3) .nil))) (.loc 0))))
  .nil)))))⟩
abbrev n_stand_apart : Nat := 16
def b_stand_apart : Fn := ⟨2, 5,
  (.cons (.ret (.not (.bi .any (.cons (.comp (.bi .any (.cons (.comp (.call 15 (.cons (.loc 0) (.cons (.loc 3) (.cons (.loc 4) .nil)))) (.nm 4) (.each (.slc (.loc 1) .none (.some (.loc 2)))) .none [4]) .nil)) (.tp [(.nm 2), (.nm 3)]) (.enum (.loc 1)) .none [2, 3]) .nil))))
  .nil)⟩
abbrev n_are_placed : Nat := 17
def b_are_placed : Fn := ⟨2, 2,
  (.cons (.expr (.call 8 (.cons (.loc 0) .nil)))
  (.cons (.ret (.call 13 (.cons (.loc 0) (.cons (.loc 1) .nil))))
  .nil))⟩
abbrev n_do_stand_apart : Nat := 18
def b_do_stand_apart : Fn := ⟨3, 3,
  (.cons (.expr (.call 8 (.cons (.loc 0) .nil)))
  (.cons (.expr (.call 10 (.cons (.loc 1) .nil)))
  (.cons (.expr (.call 14 (.cons (.loc 0) (.cons (.loc 2) .nil))))
  (.cons (.ret (.call 16 (.cons (.loc 1) (.cons (.loc 2) .nil))))
  .nil))))⟩
abbrev n_fits_armies : Nat := 19
def b_fits_armies : Fn := ⟨4, 7,
  (.cons (.iff (.or (.not (.call 3 (.cons (.loc 3) (.cons (.con (.int 2)) (.cons (.con (.int 2)) .nil))))) (.not (.bi .all (.cons (.comp (.call 13 (.cons (.loc 0) (.cons (.loc 6) .nil))) (.nm 6) (.each (.loc 3)) .none [6]) .nil))))
  (.cons (.ret (.con (.bl false)))
  .nil)
  .nil)
  (.cons (.for (.nm 4) (.each (.idx (.loc 3) (.con (.int 0))))
  (.cons (.iff (.bi .any (.cons (.comp (.or (.cmp .Eq (.loc 4) (.loc 5)) (.or (.call 15 (.cons (.loc 1) (.cons (.loc 4) (.cons (.loc 5) .nil)))) (.call 15 (.cons (.loc 2) (.cons (.loc 5) (.cons (.loc 4) .nil)))))) (.nm 5) (.each (.idx (.loc 3) (.con (.int 1)))) .none [5]) .nil))
  (.cons (.ret (.con (.bl false)))
  .nil)
  .nil)
  .nil))
  (.cons (.ret (.con (.bl true)))
  .nil)))⟩
abbrev n_barred_by : Nat := 20
def b_barred_by : Fn := ⟨4, 5,
  (.cons (.ret (.comp (.loc 4) (.nm 4) (.each (.loc 0)) (.some (.or (.cmp .Eq (.loc 4) (.loc 3)) (.or (.call 15 (.cons (.loc 1) (.cons (.loc 3) (.cons (.loc 4) .nil)))) (.call 15 (.cons (.loc 2) (.cons (.loc 4) (.cons (.loc 3) .nil))))))) [4]))
  .nil)⟩
abbrev n_armies_in : Nat := 21
def b_armies_in : Fn := ⟨3, 12,
  (.cons (.dic (.mk 3 (.comp (.tup (.cons (.loc 10) (.cons (.call 20 (.cons (.loc 0) (.cons (.loc 1) (.cons (.loc 2) (.cons (.loc 10) .nil))))) .nil))) (.nm 10) (.each (.loc 0)) .none [10])))
  (.cons (.par [.fz 4 (.tup (.cons (.tup .nil) (.cons (.tup .nil) .nil))), .ow 5 (.lst (.cons (.tup (.cons (.tup .nil) (.cons (.bi .tuple (.cons (.loc 0) .nil)) (.cons (.bi .tuple (.cons (.loc 0) .nil)) .nil)))) .nil))])
  (.cons (.whl (.cmp .NotEq (.loc 5) (.lst .nil))
  (.cons (.unp [(.nm 6), (.nm 7), (.nm 8)] (.pop 5))
  (.cons (.iff (.cmp .Gt (.bi .min (.cons (.bi .len (.cons (.loc 6) .nil)) (.cons (.bi .len (.cons (.loc 8) .nil)) .nil))) (.bi .len (.cons (.idx (.loc 4) (.con (.int 0))) .nil)))
  (.cons (.set 9 (.bi .min (.cons (.bi .len (.cons (.loc 6) .nil)) (.cons (.bi .len (.cons (.loc 8) .nil)) .nil))))
  (.cons (.set 4 (.tup (.cons (.slc (.loc 6) .none (.some (.loc 9))) (.cons (.slc (.loc 8) .none (.some (.loc 9))) .nil))))
  .nil))
  .nil)
  (.cons (.iff (.and (.cmp .NotEq (.loc 7) (.tup .nil)) (.cmp .Gt (.bi .min (.cons (.bin .Add (.bi .len (.cons (.loc 6) .nil)) (.bi .len (.cons (.loc 7) .nil))) (.cons (.bi .len (.cons (.loc 8) .nil)) .nil))) (.bi .len (.cons (.idx (.loc 4) (.con (.int 0))) .nil))))
  (.cons (.app 5 (.tup (.cons (.loc 6) (.cons (.slc (.loc 7) (.some (.con (.int 1))) .none) (.cons (.loc 8) .nil)))))
  (.cons (.app 5 (.tup (.cons (.bin .Add (.loc 6) (.slc (.loc 7) .none (.some (.con (.int 1))))) (.cons (.slc (.loc 7) (.some (.con (.int 1))) .none) (.cons (.bi .tuple (.cons (.comp (.loc 11) (.nm 11) (.each (.loc 8)) (.some (.cmp .NotIn (.loc 11) (.idx (.loc 3) (.idx (.loc 7) (.con (.int 0)))))) [11]) .nil)) .nil)))))
  .nil))
  .nil)
  .nil))))
  (.cons (.ret (.loc 4))
  .nil))))⟩
abbrev n_calmest_in : Nat := 22
def b_calmest_in : Fn := ⟨3, 10,
  (.cons (.par [.fz 3 (.con .non), .ow 4 (.lst (.cons (.tup (.cons (.tup .nil) (.cons (.con (.int 0)) (.cons (.con (.int 0)) .nil)))) .nil))])
  (.cons (.whl (.cmp .NotEq (.loc 4) (.lst .nil))
  (.cons (.unp [(.nm 5), (.nm 6), (.nm 7)] (.pop 4))
  (.cons (.iff (.or (.cmp .Is (.loc 3) (.con .non)) (.cmp .Lt (.loc 7) (.idx (.loc 3) (.con (.int 0)))))
  (.cons (.iff (.cmp .Eq (.bi .len (.cons (.loc 5) .nil)) (.loc 2))
  (.cons (.set 3 (.tup (.cons (.loc 7) (.cons (.loc 5) .nil))))
  .nil)
  (.cons (.iff (.cmp .LtE (.bin .Sub (.loc 2) (.bi .len (.cons (.loc 5) .nil))) (.bin .Sub (.bi .len (.cons (.loc 0) .nil)) (.loc 6)))
  (.cons (.set 8 (.bi .len (.cons (.comp (.loc 9) (.nm 9) (.each (.loc 5)) (.some (.call 15 (.cons (.loc 1) (.cons (.loc 9) (.cons (.idx (.loc 0) (.loc 6)) .nil))))) [9]) .nil)))
  (.cons (.app 4 (.tup (.cons (.loc 5) (.cons (.bin .Add (.loc 6) (.con (.int 1))) (.cons (.loc 7) .nil)))))
  (.cons (.app 4 (.tup (.cons (.bin .Add (.loc 5) (.tup (.cons (.idx (.loc 0) (.loc 6)) .nil))) (.cons (.bin .Add (.loc 6) (.con (.int 1))) (.cons (.bin .Add (.loc 7) (.loc 8)) .nil)))))
  .nil)))
  .nil)
  .nil))
  .nil)
  .nil)
  .nil)))
  (.cons (.ret (.loc 3))
  .nil)))⟩
abbrev n_need_camps : Nat := 23
def b_need_camps : Fn := ⟨3, 3,
  (.cons (.expr (.call 8 (.cons (.loc 0) .nil)))
  (.cons (.expr (.call 10 (.cons (.loc 1) .nil)))
  (.cons (.expr (.call 10 (.cons (.loc 2) .nil)))
  .nil)))⟩
abbrev n_need_few_squares : Nat := 24
def b_need_few_squares : Fn := ⟨1, 1,
  (.cons (.iff (.cmp .Gt (.bi .len (.cons (.call 11 (.cons (.loc 0) .nil)) .nil)) (.glob 7))
  (.cons .raise
  .nil)
  .nil)
  .nil)⟩
abbrev n_need_crowd : Nat := 25
def b_need_crowd : Fn := ⟨3, 3,
  (.cons (.expr (.call 8 (.cons (.loc 0) .nil)))
  (.cons (.expr (.call 10 (.cons (.loc 1) .nil)))
  (.cons (.expr (.call 2 (.cons (.loc 2) (.cons (.con (.int 0)) (.cons (.bi .len (.cons (.call 11 (.cons (.loc 0) .nil)) .nil)) .nil)))))
  (.cons (.expr (.call 24 (.cons (.loc 0) .nil)))
  .nil))))⟩
abbrev n_are_armies : Nat := 26
def b_are_armies : Fn := ⟨4, 4,
  (.cons (.expr (.call 23 (.cons (.loc 0) (.cons (.loc 1) (.cons (.loc 2) .nil)))))
  (.cons (.ret (.call 19 (.cons (.loc 0) (.cons (.loc 1) (.cons (.loc 2) (.cons (.loc 3) .nil))))))
  .nil))⟩
abbrev n_most_armies : Nat := 27
def b_most_armies : Fn := ⟨3, 3,
  (.cons (.expr (.call 23 (.cons (.loc 0) (.cons (.loc 1) (.cons (.loc 2) .nil)))))
  (.cons (.expr (.call 24 (.cons (.loc 0) .nil)))
  (.cons (.ret (.bi .len (.cons (.idx (.call 21 (.cons (.call 11 (.cons (.loc 0) .nil)) (.cons (.loc 1) (.cons (.loc 2) .nil)))) (.con (.int 0))) .nil)))
  .nil)))⟩
abbrev n_armies_for : Nat := 28
def b_armies_for : Fn := ⟨3, 3,
  (.cons (.expr (.call 23 (.cons (.loc 0) (.cons (.loc 1) (.cons (.loc 2) .nil)))))
  (.cons (.expr (.call 24 (.cons (.loc 0) .nil)))
  (.cons (.ret (.call 21 (.cons (.call 11 (.cons (.loc 0) .nil)) (.cons (.loc 1) (.cons (.loc 2) .nil)))))
  .nil)))⟩
abbrev n_fewest_quarrels : Nat := 29
def b_fewest_quarrels : Fn := ⟨3, 3,
  (.cons (.expr (.call 25 (.cons (.loc 0) (.cons (.loc 1) (.cons (.loc 2) .nil)))))
  (.cons (.ret (.bin .Mult (.con (.int 2)) (.idx (.call 22 (.cons (.call 11 (.cons (.loc 0) .nil)) (.cons (.loc 1) (.cons (.loc 2) .nil)))) (.con (.int 0)))))
  .nil))⟩
abbrev n_calmest : Nat := 30
def b_calmest : Fn := ⟨3, 3,
  (.cons (.expr (.call 25 (.cons (.loc 0) (.cons (.loc 1) (.cons (.loc 2) .nil)))))
  (.cons (.ret (.idx (.call 22 (.cons (.call 11 (.cons (.loc 0) .nil)) (.cons (.loc 1) (.cons (.loc 2) .nil)))) (.con (.int 1))))
  .nil))⟩
abbrev n__law_cup : Nat := 31
def b__law_cup : Fn := ⟨1, 2,
  (.cons (.set 1 (.bi .abs (.cons (.idx (.bin .Add (.bi .list (.cons (.loc 0) .nil)) (.lst (.cons (.con (.int 0)) .nil))) (.con (.int 0))) .nil)))
  (.cons (.ret (.shl (.cons (.ite (.cmp .GtE (.loc 1) (.bin .Pow (.con (.int 10)) (.con (.int 18)))) (.bin .FloorDiv (.loc 1) (.con (.int 73))) (.con (.int 0))) (.cons (.bin .Add (.bin .Mod (.bi .int (.cons (.bin .Add (.bin .Mult (.loc 1) (.con (.int 283))) (.con (.int 3907))) .nil)) (.con (.int 2077503167))) (.con (.int 167))) .nil))))
  .nil))⟩
abbrev n__law_roll : Nat := 32
def b__law_roll : Fn := ⟨2, 4,
  (.cons (.iff (.cmp .Gt (.idx (.loc 0) (.con (.int 0))) (.con (.int 0)))
  (.cons (.set 3 (.bin .Mod (.bi .int (.cons (.idx (.loc 0) (.con (.int 0))) .nil)) (.loc 1)))
  (.cons (.sto 0 (.con (.int 0)) (.bin .FloorDiv (.idx (.loc 0) (.con (.int 0))) (.loc 1)))
  (.cons (.ret (.loc 3))
  .nil)))
  .nil)
  (.cons (.sto 0 (.con (.int 1)) (.bin .Mod (.bi .int (.cons (.bin .Add (.bin .Mult (.idx (.loc 0) (.con (.int 1))) (.con (.int 31051))) (.con (.int 7993))) .nil)) (.con (.int 2147483543))))
  (.cons (.set 2 (.bin .Mod (.bi .int (.cons (.bin .Mult (.idx (.loc 0) (.con (.int 1))) (.bin .Add (.idx (.loc 0) (.con (.int 1))) (.con (.int 229)))) .nil)) (.con (.int 2147483587))))
  (.cons (.ret (.bin .Mod (.bi .int (.cons (.bin .FloorDiv (.loc 2) (.con (.int 821))) .nil)) (.loc 1)))
  .nil))))⟩
abbrev n__law_some : Nat := 33
def b__law_some : Fn := ⟨2, 2,
  (.cons (.ret (.idx (.loc 1) (.call 32 (.cons (.loc 0) (.cons (.bi .len (.cons (.loc 1) .nil)) .nil)))))
  .nil)⟩
abbrev n__law_sort : Nat := 34
def b__law_sort : Fn := ⟨1, 1,
  (.cons (.iff (.or (.cmp .Is (.loc 0) (.con .non)) (.bi (.isi .bool) (.cons (.loc 0) .nil)))
  (.cons (.ret (.ite (.cmp .Is (.loc 0) (.con .non)) (.con (.int 0)) (.con (.int 1))))
  .nil)
  .nil)
  (.cons (.iff (.or (.bi (.isi .int) (.cons (.loc 0) .nil)) (.bi (.isi .str) (.cons (.loc 0) .nil)))
  (.cons (.ret (.ite (.bi (.isi .int) (.cons (.loc 0) .nil)) (.con (.int 2)) (.con (.int 3))))
  .nil)
  .nil)
  (.cons (.ret (.ite (.bi (.isi .tuple) (.cons (.loc 0) .nil)) (.con (.int 4)) (.ite (.bi (.isi .list) (.cons (.loc 0) .nil)) (.con (.int 5)) (.con (.int 6)))))
  .nil)))⟩
abbrev n__law_like : Nat := 35
def b__law_like : Fn := ⟨2, 5,
  (.cons (.set 2 (.call 34 (.cons (.loc 1) .nil)))
  (.cons (.iff (.or (.cmp .NotEq (.call 34 (.cons (.loc 0) .nil)) (.loc 2)) (.cmp .Eq (.loc 2) (.con (.int 6))))
  (.cons (.ret (.con (.bl false)))
  .nil)
  .nil)
  (.cons (.iff (.cmp .In (.loc 2) (.tup (.cons (.con (.int 4)) (.cons (.con (.int 5)) .nil))))
  (.cons (.ret (.and (.cmp .Eq (.bi .len (.cons (.loc 0) .nil)) (.bi .len (.cons (.loc 1) .nil))) (.cmp .Eq (.comp (.con (.int 1)) (.tp [(.nm 3), (.nm 4)]) (.zip (.loc 0) (.loc 1)) (.some (.not (.call 35 (.cons (.loc 3) (.cons (.loc 4) .nil))))) [3, 4]) (.lst .nil))))
  .nil)
  .nil)
  (.cons (.ret (.cmp .Eq (.loc 0) (.loc 1)))
  .nil))))⟩
abbrev n__law_board : Nat := 36
def b__law_board : Fn := ⟨3, 9,
  (.cons (.unp [(.nm 5), (.nm 6)] (.tup (.cons (.bin .Add (.con (.int 1)) (.call 32 (.cons (.loc 0) (.cons (.loc 1) .nil)))) (.cons (.bin .Add (.con (.int 1)) (.call 32 (.cons (.loc 0) (.cons (.loc 1) .nil)))) .nil))))
  (.cons (.own 3 (.lst .nil))
  (.cons (.for (.nm 4) (.rng1 (.loc 5))
  (.cons (.set 7 (.con (.str "")))
  (.cons (.for (.nm 8) (.rng1 (.loc 6))
  (.cons (.set 7 (.bin .Add (.loc 7) (.ite (.and (.cmp .Gt (.loc 2) (.con (.int 0))) (.cmp .Eq (.call 32 (.cons (.loc 0) (.cons (.loc 2) .nil))) (.con (.int 0)))) (.con (.str "#")) (.con (.str ".")))))
  .nil))
  (.cons (.app 3 (.loc 7))
  .nil))))
  (.cons (.ret (.bi .tuple (.cons (.loc 3) .nil)))
  .nil))))⟩
abbrev n__law_squares : Nat := 37
def b__law_squares : Fn := ⟨1, 5,
  (.cons (.set 1 (.lst .nil))
  (.cons (.for (.tp [(.nm 2), (.nm 3)]) (.enum (.loc 0))
  (.cons (.set 1 (.bin .Add (.loc 1) (.comp (.tup (.cons (.loc 2) (.cons (.loc 4) .nil))) (.nm 4) (.rng1 (.bi .len (.cons (.loc 3) .nil))) (.some (.cmp .Eq (.idx (.loc 3) (.loc 4)) (.con (.str ".")))) [4])))
  .nil))
  (.cons (.ret (.loc 1))
  .nil)))⟩
abbrev n__law_takes : Nat := 38
def b__law_takes : Fn := ⟨3, 5,
  (.cons (.unp [(.nm 3), (.nm 4)] (.tup (.cons (.bi .abs (.cons (.bin .Sub (.idx (.loc 1) (.con (.int 0))) (.idx (.loc 2) (.con (.int 0)))) .nil)) (.cons (.bi .abs (.cons (.bin .Sub (.idx (.loc 1) (.con (.int 1))) (.idx (.loc 2) (.con (.int 1)))) .nil)) .nil))))
  (.cons (.iff (.cmp .Eq (.loc 1) (.loc 2))
  (.cons (.ret (.con (.bl false)))
  .nil)
  .nil)
  (.cons (.iff (.cmp .Eq (.loc 0) (.con (.str "tower")))
  (.cons (.ret (.or (.cmp .Eq (.loc 3) (.con (.int 0))) (.cmp .Eq (.loc 4) (.con (.int 0)))))
  .nil)
  .nil)
  (.cons (.iff (.cmp .Eq (.loc 0) (.con (.str "runner")))
  (.cons (.ret (.cmp .Eq (.loc 3) (.loc 4)))
  .nil)
  .nil)
  (.cons (.iff (.cmp .Eq (.loc 0) (.con (.str "queen")))
  (.cons (.ret (.or (.cmp .Eq (.loc 3) (.con (.int 0))) (.or (.cmp .Eq (.loc 4) (.con (.int 0))) (.cmp .Eq (.loc 3) (.loc 4)))))
  .nil)
  .nil)
  (.cons (.iff (.cmp .Eq (.loc 0) (.con (.str "king")))
  (.cons (.ret (.cmp .Eq (.bi .max (.cons (.loc 3) (.cons (.loc 4) .nil))) (.con (.int 1))))
  .nil)
  .nil)
  (.cons (.ret (.or (.cmp .Eq (.tup (.cons (.loc 3) (.cons (.loc 4) .nil))) (.loc 0)) (.cmp .Eq (.tup (.cons (.loc 4) (.cons (.loc 3) .nil))) (.loc 0))))
  .nil)))))))⟩
abbrev n__law_kind : Nat := 39
def b__law_kind : Fn := ⟨1, 1,
  (.cons (.ret (.call 33 (.cons (.loc 0) (.cons (.lst (.cons (.con (.str "tower")) (.cons (.con (.str "runner")) (.cons (.con (.str "queen")) (.cons (.con (.str "king")) (.cons (.tup (.cons (.con (.int 1)) (.cons (.con (.int 0)) .nil))) (.cons (.tup (.cons (.con (.int 1)) (.cons (.con (.int 1)) .nil))) (.cons (.tup (.cons (.con (.int 2)) (.cons (.con (.int 1)) .nil))) (.cons (.tup (.cons (.con (.int 3)) (.cons (.con (.int 1)) .nil))) (.cons (.tup (.cons (.con (.int 3)) (.cons (.con (.int 2)) .nil))) .nil)))))))))) .nil))))
  .nil)⟩
abbrev n__law_lots : Nat := 40
def b__law_lots : Fn := ⟨1, 4,
  (.cons (.set 1 (.lst (.cons (.tup .nil) .nil)))
  (.cons (.for (.nm 2) (.each (.loc 0))
  (.cons (.set 1 (.bin .Add (.loc 1) (.comp (.bin .Add (.loc 3) (.tup (.cons (.loc 2) .nil))) (.nm 3) (.each (.loc 1)) .none [3])))
  .nil))
  (.cons (.ret (.loc 1))
  .nil)))⟩
abbrev n__law_bent : Nat := 41
def b__law_bent : Fn := ⟨2, 5,
  (.cons (.iff (.or (.not (.bi (.isi .tuple) (.cons (.loc 1) .nil))) (.or (.cmp .Eq (.loc 1) (.tup .nil)) (.cmp .Eq (.call 32 (.cons (.loc 0) (.cons (.con (.int 8)) .nil))) (.con (.int 0)))))
  (.cons (.set 2 (.lst (.cons (.con .non) (.cons (.con (.bl true)) (.cons (.con (.bl false)) (.cons (.con (.int 0)) (.cons (.con (.int 1)) (.cons (.con (.int 2)) (.cons (.con (.int 5)) (.cons (.neg (.con (.int 1))) (.cons (.con (.str "")) (.cons (.con (.str "king")) (.cons (.con (.str "tower")) (.cons (.tup (.cons (.con (.int 2)) (.cons (.con (.int 1)) .nil))) (.cons (.tup (.cons (.con (.int 0)) (.cons (.con (.int 0)) .nil))) (.cons (.tup .nil) (.cons (.lst .nil) .nil)))))))))))))))))
  (.cons (.iff (.cmp .Eq (.call 34 (.cons (.loc 1) .nil)) (.con (.int 2)))
  (.cons (.set 2 (.bin .Add (.loc 2) (.lst (.cons (.bin .Add (.loc 1) (.con (.int 1))) (.cons (.bin .Add (.loc 1) (.con (.int 1))) (.cons (.bin .Sub (.loc 1) (.con (.int 1))) .nil))))))
  .nil)
  .nil)
  (.cons (.ret (.call 33 (.cons (.loc 0) (.cons (.loc 2) .nil))))
  .nil)))
  .nil)
  (.cons (.unp [(.nm 3), (.nm 4)] (.tup (.cons (.call 32 (.cons (.loc 0) (.cons (.bi .len (.cons (.loc 1) .nil)) .nil))) (.cons (.call 32 (.cons (.loc 0) (.cons (.con (.int 12)) .nil))) .nil))))
  (.cons (.iff (.cmp .Eq (.loc 4) (.con (.int 0)))
  (.cons (.ret (.bin .Add (.slc (.loc 1) .none (.some (.loc 3))) (.slc (.loc 1) (.some (.bin .Add (.loc 3) (.con (.int 1)))) .none)))
  .nil)
  .nil)
  (.cons (.iff (.cmp .Eq (.loc 4) (.con (.int 1)))
  (.cons (.ret (.bin .Add (.slc (.loc 1) .none (.some (.bin .Add (.loc 3) (.con (.int 1))))) (.slc (.loc 1) (.some (.loc 3)) .none)))
  .nil)
  .nil)
  (.cons (.iff (.cmp .Eq (.loc 4) (.con (.int 2)))
  (.cons (.ret (.bi .list (.cons (.loc 1) .nil)))
  .nil)
  .nil)
  (.cons (.iff (.cmp .Eq (.loc 4) (.con (.int 3)))
  (.cons (.ret (.rev (.loc 1)))
  .nil)
  .nil)
  (.cons (.ret (.bin .Add (.bin .Add (.slc (.loc 1) .none (.some (.loc 3))) (.tup (.cons (.call 41 (.cons (.loc 0) (.cons (.idx (.loc 1) (.loc 3)) .nil))) .nil))) (.slc (.loc 1) (.some (.bin .Add (.loc 3) (.con (.int 1)))) .none)))
  .nil)))))))⟩
abbrev n__law_is_square : Nat := 42
def b__law_is_square : Fn := ⟨2, 3,
  (.cons (.iff (.or (.not (.bi (.isi .tuple) (.cons (.loc 1) .nil))) (.or (.cmp .NotEq (.bi .len (.cons (.loc 1) .nil)) (.con (.int 2))) (.cmp .NotEq (.comp (.loc 2) (.nm 2) (.each (.loc 1)) (.some (.cmp .NotEq (.call 34 (.cons (.loc 2) .nil)) (.con (.int 2)))) [2]) (.lst .nil))))
  (.cons (.ret (.con (.bl false)))
  .nil)
  .nil)
  (.cons (.ret (.and (.chain .LtE .Lt (.con (.int 0)) (.idx (.loc 1) (.con (.int 0))) (.bi .len (.cons (.loc 0) .nil))) (.and (.chain .LtE .Lt (.con (.int 0)) (.idx (.loc 1) (.con (.int 1))) (.bi .len (.cons (.idx (.loc 0) (.con (.int 0))) .nil))) (.cmp .Eq (.idx (.idx (.loc 0) (.idx (.loc 1) (.con (.int 0)))) (.idx (.loc 1) (.con (.int 1)))) (.con (.str "."))))))
  .nil))⟩
abbrev n__law_are_armies : Nat := 43
def b__law_are_armies : Fn := ⟨4, 7,
  (.cons (.iff (.or (.not (.bi (.isi .tuple) (.cons (.loc 3) .nil))) (.or (.cmp .NotEq (.bi .len (.cons (.loc 3) .nil)) (.con (.int 2))) (.cmp .NotEq (.comp (.loc 5) (.nm 5) (.each (.loc 3)) (.some (.not (.call 44 (.cons (.loc 0) (.cons (.loc 5) .nil))))) [5]) (.lst .nil))))
  (.cons (.ret (.con (.bl false)))
  .nil)
  .nil)
  (.cons (.for (.nm 4) (.each (.idx (.loc 3) (.con (.int 0))))
  (.cons (.iff (.cmp .NotEq (.comp (.loc 6) (.nm 6) (.each (.idx (.loc 3) (.con (.int 1)))) (.some (.or (.cmp .Eq (.loc 6) (.loc 4)) (.or (.call 38 (.cons (.loc 1) (.cons (.loc 4) (.cons (.loc 6) .nil)))) (.call 38 (.cons (.loc 2) (.cons (.loc 6) (.cons (.loc 4) .nil))))))) [6]) (.lst .nil))
  (.cons (.ret (.con (.bl false)))
  .nil)
  .nil)
  .nil))
  (.cons (.ret (.con (.bl true)))
  .nil)))⟩
abbrev n__law_is_army : Nat := 44
def b__law_is_army : Fn := ⟨2, 3,
  (.cons (.iff (.or (.not (.bi (.isi .tuple) (.cons (.loc 1) .nil))) (.cmp .NotEq (.comp (.loc 2) (.nm 2) (.each (.loc 1)) (.some (.not (.call 42 (.cons (.loc 0) (.cons (.loc 2) .nil))))) [2]) (.lst .nil)))
  (.cons (.ret (.con (.bl false)))
  .nil)
  .nil)
  (.cons (.ret (.cmp .Eq (.bi .list (.cons (.loc 1) .nil)) (.bi .sortSet (.cons (.loc 1) .nil))))
  .nil))⟩
abbrev n__law_most : Nat := 45
def b__law_most : Fn := ⟨3, 8,
  (.cons (.unp [(.nm 4), (.nm 5)] (.tup (.cons (.call 37 (.cons (.loc 0) .nil)) (.cons (.con (.int 0)) .nil))))
  (.cons (.for (.nm 3) (.each (.call 40 (.cons (.loc 4) .nil)))
  (.cons (.iff (.cmp .Gt (.bi .len (.cons (.loc 3) .nil)) (.loc 5))
  (.cons (.set 6 (.comp (.loc 7) (.nm 7) (.each (.loc 4)) (.some (.call 43 (.cons (.loc 0) (.cons (.loc 1) (.cons (.loc 2) (.cons (.tup (.cons (.loc 3) (.cons (.tup (.cons (.loc 7) .nil)) .nil))) .nil)))))) [7]))
  (.cons (.set 5 (.bi .max (.cons (.loc 5) (.cons (.bi .min (.cons (.bi .len (.cons (.loc 3) .nil)) (.cons (.bi .len (.cons (.loc 6) .nil)) .nil))) .nil))))
  .nil))
  .nil)
  .nil))
  (.cons (.ret (.loc 5))
  .nil)))⟩
abbrev n__law_armies_right : Nat := 46
def b__law_armies_right : Fn := ⟨4, 12,
  (.cons (.unp [(.nm 8), (.nm 9)] (.tup (.cons (.call 28 (.cons (.loc 1) (.cons (.loc 2) (.cons (.loc 3) .nil)))) (.cons (.call 27 (.cons (.loc 1) (.cons (.loc 2) (.cons (.loc 3) .nil)))) .nil))))
  (.cons (.iff (.or (.not (.call 43 (.cons (.loc 1) (.cons (.loc 2) (.cons (.loc 3) (.cons (.loc 8) .nil)))))) (.not (.call 35 (.cons (.lst (.cons (.bi .len (.cons (.idx (.loc 8) (.con (.int 0))) .nil)) (.cons (.bi .len (.cons (.idx (.loc 8) (.con (.int 1))) .nil)) (.cons (.loc 9) .nil)))) (.cons (.lst (.cons (.loc 9) (.cons (.loc 9) (.cons (.call 45 (.cons (.loc 1) (.cons (.loc 2) (.cons (.loc 3) .nil)))) .nil)))) .nil)))))
  (.cons (.ret (.con (.bl false)))
  .nil)
  .nil)
  (.cons (.iff (.or (.cmp .NotEq (.call 27 (.cons (.loc 1) (.cons (.loc 3) (.cons (.loc 2) .nil)))) (.loc 9)) (.cmp .IsNot (.call 26 (.cons (.loc 1) (.cons (.loc 3) (.cons (.loc 2) (.cons (.rev (.loc 8)) .nil))))) (.con (.bl true))))
  (.cons (.ret (.con (.bl false)))
  .nil)
  .nil)
  (.cons (.set 4 (.bi .tuple (.cons (.call 37 (.cons (.loc 1) .nil)) .nil)))
  (.cons (.set 5 (.tup (.cons (.bi .tuple (.cons (.comp (.loc 11) (.nm 11) (.each (.loc 4)) (.some (.cmp .Eq (.call 32 (.cons (.loc 0) (.cons (.con (.int 3)) .nil))) (.con (.int 0)))) [11]) .nil)) (.cons (.bi .tuple (.cons (.comp (.loc 11) (.nm 11) (.each (.loc 4)) (.some (.cmp .Eq (.call 32 (.cons (.loc 0) (.cons (.con (.int 3)) .nil))) (.con (.int 0)))) [11]) .nil)) .nil))))
  (.cons (.set 6 (.lst (.cons (.loc 8) (.cons (.rev (.loc 8)) (.cons (.loc 5) (.cons (.tup (.cons (.slc (.idx (.loc 8) (.con (.int 0))) (.some (.con (.int 1))) .none) (.cons (.idx (.loc 8) (.con (.int 1))) .nil))) (.cons (.tup (.cons (.idx (.loc 8) (.con (.int 0))) (.cons (.idx (.loc 5) (.con (.int 1))) .nil))) (.cons (.tup (.cons (.loc 4) (.cons (.tup .nil) .nil))) (.cons (.tup (.cons (.tup .nil) (.cons (.loc 4) .nil))) (.cons (.tup (.cons (.loc 4) (.cons (.loc 4) .nil))) .nil))))))))))
  (.cons (.set 6 (.bin .Add (.loc 6) (.lst (.cons (.bi .list (.cons (.loc 8) .nil)) (.cons (.tup (.cons (.idx (.loc 8) (.con (.int 0))) .nil)) (.cons (.con .non) (.cons (.tup (.cons (.tup .nil) (.cons (.tup .nil) .nil))) .nil)))))))
  (.cons (.for (.nm 7) (.each (.bin .Add (.bin .Add (.loc 6) (.lst (.cons (.tup (.cons (.rev (.idx (.loc 8) (.con (.int 0)))) (.cons (.idx (.loc 8) (.con (.int 1))) .nil))) (.cons (.tup (.cons (.bin .Add (.idx (.loc 8) (.con (.int 0))) (.slc (.idx (.loc 8) (.con (.int 0))) (.some (.neg (.con (.int 1)))) .none)) (.cons (.idx (.loc 8) (.con (.int 1))) .nil))) .nil)))) (.comp (.call 41 (.cons (.loc 0) (.cons (.loc 8) .nil))) (.nm 10) (.rng1 (.con (.int 4))) .none [10])))
  (.cons (.iff (.not (.call 35 (.cons (.call 26 (.cons (.loc 1) (.cons (.loc 2) (.cons (.loc 3) (.cons (.loc 7) .nil))))) (.cons (.call 43 (.cons (.loc 1) (.cons (.loc 2) (.cons (.loc 3) (.cons (.loc 7) .nil))))) .nil))))
  (.cons (.ret (.con (.bl false)))
  .nil)
  .nil)
  .nil))
  (.cons (.ret (.con (.bl true)))
  .nil)))))))))⟩
abbrev n__law_quarrels : Nat := 47
def b__law_quarrels : Fn := ⟨2, 5,
  (.cons (.ret (.bin .Mult (.con (.int 2)) (.bi .sum (.cons (.comp (.bi .len (.cons (.comp (.loc 4) (.nm 4) (.each (.slc (.loc 1) .none (.some (.loc 2)))) (.some (.call 38 (.cons (.loc 0) (.cons (.loc 3) (.cons (.loc 4) .nil))))) [4]) .nil)) (.tp [(.nm 2), (.nm 3)]) (.enum (.loc 1)) .none [2, 3]) .nil))))
  .nil)⟩
abbrev n__law_calm_right : Nat := 48
def b__law_calm_right : Fn := ⟨2, 9,
  (.cons (.par [.fz 5 (.call 37 (.cons (.loc 0) .nil)), .nw 6 false])
  (.cons (.for (.nm 2) (.each (.call 40 (.cons (.loc 5) .nil)))
  (.cons (.set 7 (.call 47 (.cons (.loc 1) (.cons (.loc 2) .nil))))
  (.cons (.sto 6 (.bi .len (.cons (.loc 2) .nil)) (.bi .min (.cons (.loc 7) (.cons (.dget 6 (.bi .len (.cons (.loc 2) .nil)) (.loc 7)) .nil))))
  .nil)))
  (.cons (.set 3 (.comp (.call 29 (.cons (.loc 0) (.cons (.loc 1) (.cons (.loc 4) .nil)))) (.nm 4) (.rng1 (.bin .Add (.bi .len (.cons (.loc 5) .nil)) (.con (.int 1)))) .none [4]))
  (.cons (.iff (.or (.not (.call 35 (.cons (.loc 3) (.cons (.comp (.idx (.loc 6) (.loc 4)) (.nm 4) (.rng1 (.bin .Add (.bi .len (.cons (.loc 5) .nil)) (.con (.int 1)))) .none [4]) .nil)))) (.cmp .NotEq (.loc 3) (.bi .sorted (.cons (.loc 3) .nil))))
  (.cons (.ret (.con (.bl false)))
  .nil)
  .nil)
  (.cons (.for (.nm 4) (.rng1 (.bin .Add (.bi .len (.cons (.loc 5) .nil)) (.con (.int 1))))
  (.cons (.set 8 (.call 30 (.cons (.loc 0) (.cons (.loc 1) (.cons (.loc 4) .nil)))))
  (.cons (.iff (.or (.not (.call 44 (.cons (.loc 0) (.cons (.loc 8) .nil)))) (.or (.cmp .NotEq (.bi .len (.cons (.loc 8) .nil)) (.loc 4)) (.cmp .NotEq (.call 47 (.cons (.loc 1) (.cons (.loc 8) .nil))) (.idx (.loc 3) (.loc 4)))))
  (.cons (.ret (.con (.bl false)))
  .nil)
  .nil)
  (.cons (.iff (.or (.cmp .IsNot (.call 17 (.cons (.loc 0) (.cons (.loc 8) .nil))) (.con (.bl true))) (.cmp .NotEq (.call 18 (.cons (.loc 0) (.cons (.loc 1) (.cons (.loc 8) .nil)))) (.cmp .Eq (.idx (.loc 3) (.loc 4)) (.con (.int 0)))))
  (.cons (.ret (.con (.bl false)))
  .nil)
  .nil)
  .nil))))
  (.cons (.ret (.con (.bl true)))
  .nil))))))⟩
abbrev n_law : Nat := 49
def b_law : Fn := ⟨1, 14,
  (.cons (.set 1 (.call 31 (.cons (.loc 0) .nil)))
  (.cons (.unp [(.nm 6), (.nm 7)] (.tup (.cons (.tup (.cons (.con (.str "...")) (.cons (.con (.str "...")) (.cons (.con (.str "...")) .nil)))) (.cons (.tup (.cons (.con (.str "..")) (.cons (.con (.str "..")) .nil))) .nil))))
  (.cons (.set 2 (.lst (.cons (.call 27 (.cons (.loc 7) (.cons (.con (.str "tower")) (.cons (.con (.str "tower")) .nil)))) (.cons (.call 27 (.cons (.loc 7) (.cons (.con (.str "runner")) (.cons (.con (.str "runner")) .nil)))) (.cons (.call 27 (.cons (.loc 6) (.cons (.con (.str "king")) (.cons (.con (.str "king")) .nil)))) .nil)))))
  (.cons (.set 2 (.bin .Add (.loc 2) (.lst (.cons (.call 26 (.cons (.loc 7) (.cons (.con (.str "runner")) (.cons (.con (.str "runner")) (.cons (.tup (.cons (.tup (.cons (.tup (.cons (.con (.int 0)) (.cons (.con (.int 0)) .nil))) (.cons (.tup (.cons (.con (.int 1)) (.cons (.con (.int 1)) .nil))) .nil))) (.cons (.tup (.cons (.tup (.cons (.con (.int 0)) (.cons (.con (.int 1)) .nil))) (.cons (.tup (.cons (.con (.int 1)) (.cons (.con (.int 0)) .nil))) .nil))) .nil))) .nil))))) (.cons (.call 26 (.cons (.loc 7) (.cons (.con (.str "tower")) (.cons (.con (.str "tower")) (.cons (.tup (.cons (.tup (.cons (.tup (.cons (.con (.int 0)) (.cons (.con (.int 0)) .nil))) .nil)) (.cons (.tup (.cons (.tup (.cons (.con (.int 0)) (.cons (.con (.int 1)) .nil))) .nil)) .nil))) .nil))))) .nil)))))
  (.cons (.set 2 (.bin .Add (.loc 2) (.lst (.cons (.call 27 (.cons (.loc 7) (.cons (.con (.str "runner")) (.cons (.con (.str "tower")) .nil)))) (.cons (.call 26 (.cons (.loc 7) (.cons (.con (.str "tower")) (.cons (.con (.str "tower")) (.cons (.tup (.cons (.tup (.cons (.tup (.cons (.con (.int 0)) (.cons (.con (.int 0)) .nil))) .nil)) (.cons (.tup (.cons (.tup (.cons (.con (.int 0)) (.cons (.con (.int 0)) .nil))) .nil)) .nil))) .nil))))) .nil)))))
  (.cons (.iff (.not (.call 35 (.cons (.loc 2) (.cons (.lst (.cons (.con (.int 1)) (.cons (.con (.int 2)) (.cons (.con (.int 3)) (.cons (.con (.bl true)) (.cons (.con (.bl false)) (.cons (.con (.int 0)) (.cons (.con (.bl false)) .nil)))))))) .nil))))
  (.cons (.ret (.con (.bl false)))
  .nil)
  .nil)
  (.cons (.set 2 (.lst (.cons (.call 29 (.cons (.loc 7) (.cons (.con (.str "tower")) (.cons (.con (.int 2)) .nil)))) (.cons (.call 29 (.cons (.loc 7) (.cons (.con (.str "tower")) (.cons (.con (.int 3)) .nil)))) (.cons (.call 29 (.cons (.loc 7) (.cons (.con (.str "queen")) (.cons (.con (.int 2)) .nil)))) (.cons (.bi .len (.cons (.call 30 (.cons (.loc 6) (.cons (.con (.str "tower")) (.cons (.con (.int 4)) .nil)))) .nil)) .nil))))))
  (.cons (.iff (.not (.call 35 (.cons (.bin .Add (.loc 2) (.lst (.cons (.call 29 (.cons (.loc 6) (.cons (.con (.str "tower")) (.cons (.con (.int 4)) .nil)))) (.cons (.call 30 (.cons (.loc 7) (.cons (.con (.str "king")) (.cons (.con (.int 0)) .nil)))) .nil)))) (.cons (.lst (.cons (.con (.int 0)) (.cons (.con (.int 4)) (.cons (.con (.int 2)) (.cons (.con (.int 4)) (.cons (.con (.int 4)) (.cons (.tup .nil) .nil))))))) .nil))))
  (.cons (.ret (.con (.bl false)))
  .nil)
  .nil)
  (.cons (.set 3 (.bin .Mult (.tup (.cons (.con (.str "....")) .nil)) (.con (.int 4))))
  (.cons (.set 2 (.lst (.cons (.call 27 (.cons (.loc 3) (.cons (.con (.str "queen")) (.cons (.con (.str "queen")) .nil)))) (.cons (.call 27 (.cons (.loc 3) (.cons (.con (.str "runner")) (.cons (.con (.str "runner")) .nil)))) (.cons (.call 29 (.cons (.loc 3) (.cons (.con (.str "queen")) (.cons (.con (.int 4)) .nil)))) .nil)))))
  (.cons (.iff (.not (.call 35 (.cons (.loc 2) (.cons (.lst (.cons (.con (.int 2)) (.cons (.con (.int 8)) (.cons (.con (.int 0)) .nil)))) .nil))))
  (.cons (.ret (.con (.bl false)))
  .nil)
  .nil)
  (.cons (.for (.tp [(.nm 8), (.nm 9)]) (.each (.tup (.cons (.tup (.cons (.con (.int 2)) (.cons (.con (.int 0)) .nil))) (.cons (.tup (.cons (.con (.int 3)) (.cons (.con (.int 0)) .nil))) (.cons (.tup (.cons (.con (.int 3)) (.cons (.con (.int 4)) .nil))) .nil)))))
  (.cons (.set 10 (.call 36 (.cons (.loc 1) (.cons (.loc 8) (.cons (.loc 9) .nil)))))
  (.cons (.set 6 (.call 39 (.cons (.loc 1) .nil)))
  (.cons (.iff (.or (.not (.call 46 (.cons (.loc 1) (.cons (.loc 10) (.cons (.loc 6) (.cons (.call 33 (.cons (.loc 1) (.cons (.lst (.cons (.loc 6) (.cons (.call 39 (.cons (.loc 1) .nil)) .nil))) .nil))) .nil)))))) (.not (.call 48 (.cons (.loc 10) (.cons (.call 39 (.cons (.loc 1) .nil)) .nil)))))
  (.cons (.ret (.con (.bl false)))
  .nil)
  .nil)
  .nil))))
  (.cons (.iff (.cmp .Eq (.call 32 (.cons (.loc 1) (.cons (.con (.int 6)) .nil))) (.con (.int 0)))
  (.cons (.dic (.nw 11 false))
  (.cons (.for (.nm 12) (.rng1 (.con (.int 11)))
  (.cons (.sto 11 (.call 32 (.cons (.loc 1) (.cons (.con (.int 16)) .nil))) (.con (.bl true)))
  .nil))
  (.cons (.set 10 (.bi .tuple (.cons (.comp (.bi .join (.cons (.con (.str "")) (.cons (.comp (.ite (.cmp .In (.bin .Add (.bin .Mult (.con (.int 4)) (.loc 5)) (.loc 13)) (.loc 11)) (.con (.str ".")) (.con (.str "#"))) (.nm 13) (.rng1 (.con (.int 4))) .none [13]) .nil))) (.nm 5) (.rng1 (.con (.int 4))) .none [5]) .nil)))
  (.cons (.iff (.not (.call 46 (.cons (.loc 1) (.cons (.loc 10) (.cons (.call 39 (.cons (.loc 1) .nil)) (.cons (.call 39 (.cons (.loc 1) .nil)) .nil))))))
  (.cons (.ret (.con (.bl false)))
  .nil)
  .nil)
  .nil))))
  .nil)
  (.cons (.set 4 (.bin .Add (.con (.int 1)) (.call 32 (.cons (.loc 1) (.cons (.con (.int 16)) .nil)))))
  (.cons (.set 5 (.tup (.cons (.bin .Mult (.con (.str ".")) (.loc 4)) .nil)))
  (.cons (.set 2 (.lst (.cons (.call 27 (.cons (.loc 5) (.cons (.con (.str "tower")) (.cons (.con (.str "king")) .nil)))) (.cons (.call 27 (.cons (.loc 5) (.cons (.con (.str "king")) (.cons (.con (.str "king")) .nil)))) (.cons (.call 27 (.cons (.loc 5) (.cons (.con (.str "runner")) (.cons (.con (.str "runner")) .nil)))) (.cons (.call 29 (.cons (.loc 5) (.cons (.con (.str "tower")) (.cons (.loc 4) .nil)))) .nil))))))
  (.cons (.ret (.call 35 (.cons (.loc 2) (.cons (.lst (.cons (.con (.int 0)) (.cons (.bi .int (.cons (.bin .FloorDiv (.bin .Sub (.loc 4) (.con (.int 1))) (.con (.int 2))) .nil)) (.cons (.bi .int (.cons (.bin .FloorDiv (.loc 4) (.con (.int 2))) .nil)) (.cons (.bin .Mult (.loc 4) (.bin .Sub (.loc 4) (.con (.int 1)))) .nil))))) .nil))))
  .nil)))))))))))))))))⟩
def fns : List Fn := [b_is_integer, b_is_whole, b_need_whole, b_is_tuple_of, b_is_rising, b_is_word, b_is_pair_in, b_fits_board, b_need_board, b_fits_kind, b_need_kind, b_squares_in, b_is_square_of, b_fits_placed, b_need_placed, b_takes, b_stand_apart, b_are_placed, b_do_stand_apart, b_fits_armies, b_barred_by, b_armies_in, b_calmest_in, b_need_camps, b_need_few_squares, b_need_crowd, b_are_armies, b_most_armies, b_armies_for, b_fewest_quarrels, b_calmest, b__law_cup, b__law_roll, b__law_some, b__law_sort, b__law_like, b__law_board, b__law_squares, b__law_takes, b__law_kind, b__law_lots, b__law_bent, b__law_is_square, b__law_are_armies, b__law_is_army, b__law_most, b__law_armies_right, b__law_quarrels, b__law_calm_right, b_law]
def cds : List D := [(.int 24), (.int 1), (.int 12), (.str "."), (.str "#"), (.tup [(.str "tower"), (.str "runner"), (.str "queen")]), (.tup [(.str "tower"), (.str "runner"), (.str "queen"), (.str "king")]), (.int 16)]
@[irreducible] def C (n g : Nat) (args : List D) : M D := callF fns cds WH n g args
def cf (n : Nat) : Cf := ⟨C n, cds⟩
@[simp] theorem cf_call (n : Nat) : (cf n).call = C n := id rfl
@[simp] theorem cf_cs (n : Nat) : (cf n).cs = cds := id rfl
@[simp] theorem g_MOST : cds[0]? = some (.int 24) := id rfl
@[simp] theorem g_LEAST_LEAP : cds[1]? = some (.int 1) := id rfl
@[simp] theorem g_FAR_LEAP : cds[2]? = some (.int 12) := id rfl
@[simp] theorem g_SQUARE : cds[3]? = some (.str ".") := id rfl
@[simp] theorem g_HOLE : cds[4]? = some (.str "#") := id rfl
@[simp] theorem g_LINES : cds[5]? = some (.tup [(.str "tower"), (.str "runner"), (.str "queen")]) := id rfl
@[simp] theorem g_NAMES : cds[6]? = some (.tup [(.str "tower"), (.str "runner"), (.str "queen"), (.str "king")]) := id rfl
@[simp] theorem g_FEW : cds[7]? = some (.int 16) := id rfl
theorem u_is_integer (n : Nat) (a0 : D) (s : S) : C (n + 1) 0 [a0] s = backF s.sl (evSs (cf n) WH b_is_integer.body ⟨[.fz a0], s.sh⟩) := by with_unfolding_all rfl
theorem u_is_whole (n : Nat) (a0 : D) (a1 : D) (a2 : D) (s : S) : C (n + 1) 1 [a0, a1, a2] s = backF s.sl (evSs (cf n) WH b_is_whole.body ⟨[.fz a0, .fz a1, .fz a2], s.sh⟩) := by with_unfolding_all rfl
theorem u_need_whole (n : Nat) (a0 : D) (a1 : D) (a2 : D) (s : S) : C (n + 1) 2 [a0, a1, a2] s = backF s.sl (evSs (cf n) WH b_need_whole.body ⟨[.fz a0, .fz a1, .fz a2], s.sh⟩) := by with_unfolding_all rfl
theorem u_is_tuple_of (n : Nat) (a0 : D) (a1 : D) (a2 : D) (s : S) : C (n + 1) 3 [a0, a1, a2] s = backF s.sl (evSs (cf n) WH b_is_tuple_of.body ⟨[.fz a0, .fz a1, .fz a2], s.sh⟩) := by with_unfolding_all rfl
theorem u_is_rising (n : Nat) (a0 : D) (s : S) : C (n + 1) 4 [a0] s = backF s.sl (evSs (cf n) WH b_is_rising.body ⟨[.fz a0, .un, .un], s.sh⟩) := by with_unfolding_all rfl
theorem u_is_word (n : Nat) (a0 : D) (a1 : D) (a2 : D) (a3 : D) (s : S) : C (n + 1) 5 [a0, a1, a2, a3] s = backF s.sl (evSs (cf n) WH b_is_word.body ⟨[.fz a0, .fz a1, .fz a2, .fz a3, .un], s.sh⟩) := by with_unfolding_all rfl
theorem u_is_pair_in (n : Nat) (a0 : D) (a1 : D) (a2 : D) (s : S) : C (n + 1) 6 [a0, a1, a2] s = backF s.sl (evSs (cf n) WH b_is_pair_in.body ⟨[.fz a0, .fz a1, .fz a2], s.sh⟩) := by with_unfolding_all rfl
theorem u_fits_board (n : Nat) (a0 : D) (s : S) : C (n + 1) 7 [a0] s = backF s.sl (evSs (cf n) WH b_fits_board.body ⟨[.fz a0, .un], s.sh⟩) := by with_unfolding_all rfl
theorem u_need_board (n : Nat) (a0 : D) (s : S) : C (n + 1) 8 [a0] s = backF s.sl (evSs (cf n) WH b_need_board.body ⟨[.fz a0], s.sh⟩) := by with_unfolding_all rfl
theorem u_fits_kind (n : Nat) (a0 : D) (s : S) : C (n + 1) 9 [a0] s = backF s.sl (evSs (cf n) WH b_fits_kind.body ⟨[.fz a0], s.sh⟩) := by with_unfolding_all rfl
theorem u_need_kind (n : Nat) (a0 : D) (s : S) : C (n + 1) 10 [a0] s = backF s.sl (evSs (cf n) WH b_need_kind.body ⟨[.fz a0], s.sh⟩) := by with_unfolding_all rfl
theorem u_squares_in (n : Nat) (a0 : D) (s : S) : C (n + 1) 11 [a0] s = backF s.sl (evSs (cf n) WH b_squares_in.body ⟨[.fz a0, .un, .un, .un, .un, .un], s.sh⟩) := by with_unfolding_all rfl
theorem u_is_square_of (n : Nat) (a0 : D) (a1 : D) (s : S) : C (n + 1) 12 [a0, a1] s = backF s.sl (evSs (cf n) WH b_is_square_of.body ⟨[.fz a0, .fz a1], s.sh⟩) := by with_unfolding_all rfl
theorem u_fits_placed (n : Nat) (a0 : D) (a1 : D) (s : S) : C (n + 1) 13 [a0, a1] s = backF s.sl (evSs (cf n) WH b_fits_placed.body ⟨[.fz a0, .fz a1, .un], s.sh⟩) := by with_unfolding_all rfl
theorem u_need_placed (n : Nat) (a0 : D) (a1 : D) (s : S) : C (n + 1) 14 [a0, a1] s = backF s.sl (evSs (cf n) WH b_need_placed.body ⟨[.fz a0, .fz a1], s.sh⟩) := by with_unfolding_all rfl
theorem u_takes (n : Nat) (a0 : D) (a1 : D) (a2 : D) (s : S) : C (n + 1) 15 [a0, a1, a2] s = backF s.sl (evSs (cf n) WH b_takes.body ⟨[.fz a0, .fz a1, .fz a2, .un, .un, .un, .un], s.sh⟩) := by with_unfolding_all rfl
theorem u_stand_apart (n : Nat) (a0 : D) (a1 : D) (s : S) : C (n + 1) 16 [a0, a1] s = backF s.sl (evSs (cf n) WH b_stand_apart.body ⟨[.fz a0, .fz a1, .un, .un, .un], s.sh⟩) := by with_unfolding_all rfl
theorem u_are_placed (n : Nat) (a0 : D) (a1 : D) (s : S) : C (n + 1) 17 [a0, a1] s = backF s.sl (evSs (cf n) WH b_are_placed.body ⟨[.fz a0, .fz a1], s.sh⟩) := by with_unfolding_all rfl
theorem u_do_stand_apart (n : Nat) (a0 : D) (a1 : D) (a2 : D) (s : S) : C (n + 1) 18 [a0, a1, a2] s = backF s.sl (evSs (cf n) WH b_do_stand_apart.body ⟨[.fz a0, .fz a1, .fz a2], s.sh⟩) := by with_unfolding_all rfl
theorem u_fits_armies (n : Nat) (a0 : D) (a1 : D) (a2 : D) (a3 : D) (s : S) : C (n + 1) 19 [a0, a1, a2, a3] s = backF s.sl (evSs (cf n) WH b_fits_armies.body ⟨[.fz a0, .fz a1, .fz a2, .fz a3, .un, .un, .un], s.sh⟩) := by with_unfolding_all rfl
theorem u_barred_by (n : Nat) (a0 : D) (a1 : D) (a2 : D) (a3 : D) (s : S) : C (n + 1) 20 [a0, a1, a2, a3] s = backF s.sl (evSs (cf n) WH b_barred_by.body ⟨[.fz a0, .fz a1, .fz a2, .fz a3, .un], s.sh⟩) := by with_unfolding_all rfl
theorem u_armies_in (n : Nat) (a0 : D) (a1 : D) (a2 : D) (s : S) : C (n + 1) 21 [a0, a1, a2] s = backF s.sl (evSs (cf n) WH b_armies_in.body ⟨[.fz a0, .fz a1, .fz a2, .un, .un, .un, .un, .un, .un, .un, .un, .un], s.sh⟩) := by with_unfolding_all rfl
theorem u_calmest_in (n : Nat) (a0 : D) (a1 : D) (a2 : D) (s : S) : C (n + 1) 22 [a0, a1, a2] s = backF s.sl (evSs (cf n) WH b_calmest_in.body ⟨[.fz a0, .fz a1, .fz a2, .un, .un, .un, .un, .un, .un, .un], s.sh⟩) := by with_unfolding_all rfl
theorem u_need_camps (n : Nat) (a0 : D) (a1 : D) (a2 : D) (s : S) : C (n + 1) 23 [a0, a1, a2] s = backF s.sl (evSs (cf n) WH b_need_camps.body ⟨[.fz a0, .fz a1, .fz a2], s.sh⟩) := by with_unfolding_all rfl
theorem u_need_few_squares (n : Nat) (a0 : D) (s : S) : C (n + 1) 24 [a0] s = backF s.sl (evSs (cf n) WH b_need_few_squares.body ⟨[.fz a0], s.sh⟩) := by with_unfolding_all rfl
theorem u_need_crowd (n : Nat) (a0 : D) (a1 : D) (a2 : D) (s : S) : C (n + 1) 25 [a0, a1, a2] s = backF s.sl (evSs (cf n) WH b_need_crowd.body ⟨[.fz a0, .fz a1, .fz a2], s.sh⟩) := by with_unfolding_all rfl
theorem u_are_armies (n : Nat) (a0 : D) (a1 : D) (a2 : D) (a3 : D) (s : S) : C (n + 1) 26 [a0, a1, a2, a3] s = backF s.sl (evSs (cf n) WH b_are_armies.body ⟨[.fz a0, .fz a1, .fz a2, .fz a3], s.sh⟩) := by with_unfolding_all rfl
theorem u_most_armies (n : Nat) (a0 : D) (a1 : D) (a2 : D) (s : S) : C (n + 1) 27 [a0, a1, a2] s = backF s.sl (evSs (cf n) WH b_most_armies.body ⟨[.fz a0, .fz a1, .fz a2], s.sh⟩) := by with_unfolding_all rfl
theorem u_armies_for (n : Nat) (a0 : D) (a1 : D) (a2 : D) (s : S) : C (n + 1) 28 [a0, a1, a2] s = backF s.sl (evSs (cf n) WH b_armies_for.body ⟨[.fz a0, .fz a1, .fz a2], s.sh⟩) := by with_unfolding_all rfl
theorem u_fewest_quarrels (n : Nat) (a0 : D) (a1 : D) (a2 : D) (s : S) : C (n + 1) 29 [a0, a1, a2] s = backF s.sl (evSs (cf n) WH b_fewest_quarrels.body ⟨[.fz a0, .fz a1, .fz a2], s.sh⟩) := by with_unfolding_all rfl
theorem u_calmest (n : Nat) (a0 : D) (a1 : D) (a2 : D) (s : S) : C (n + 1) 30 [a0, a1, a2] s = backF s.sl (evSs (cf n) WH b_calmest.body ⟨[.fz a0, .fz a1, .fz a2], s.sh⟩) := by with_unfolding_all rfl
theorem u__law_cup (n : Nat) (a0 : D) (s : S) : C (n + 1) 31 [a0] s = backF s.sl (evSs (cf n) WH b__law_cup.body ⟨[.fz a0, .un], s.sh⟩) := by with_unfolding_all rfl
theorem u__law_roll (n : Nat) (a0 : D) (a1 : D) (s : S) : C (n + 1) 32 [a0, a1] s = backF s.sl (evSs (cf n) WH b__law_roll.body ⟨[.fz a0, .fz a1, .un, .un], s.sh⟩) := by with_unfolding_all rfl
theorem u__law_some (n : Nat) (a0 : D) (a1 : D) (s : S) : C (n + 1) 33 [a0, a1] s = backF s.sl (evSs (cf n) WH b__law_some.body ⟨[.fz a0, .fz a1], s.sh⟩) := by with_unfolding_all rfl
theorem u__law_sort (n : Nat) (a0 : D) (s : S) : C (n + 1) 34 [a0] s = backF s.sl (evSs (cf n) WH b__law_sort.body ⟨[.fz a0], s.sh⟩) := by with_unfolding_all rfl
theorem u__law_like (n : Nat) (a0 : D) (a1 : D) (s : S) : C (n + 1) 35 [a0, a1] s = backF s.sl (evSs (cf n) WH b__law_like.body ⟨[.fz a0, .fz a1, .un, .un, .un], s.sh⟩) := by with_unfolding_all rfl
theorem u__law_board (n : Nat) (a0 : D) (a1 : D) (a2 : D) (s : S) : C (n + 1) 36 [a0, a1, a2] s = backF s.sl (evSs (cf n) WH b__law_board.body ⟨[.fz a0, .fz a1, .fz a2, .un, .un, .un, .un, .un, .un], s.sh⟩) := by with_unfolding_all rfl
theorem u__law_squares (n : Nat) (a0 : D) (s : S) : C (n + 1) 37 [a0] s = backF s.sl (evSs (cf n) WH b__law_squares.body ⟨[.fz a0, .un, .un, .un, .un], s.sh⟩) := by with_unfolding_all rfl
theorem u__law_takes (n : Nat) (a0 : D) (a1 : D) (a2 : D) (s : S) : C (n + 1) 38 [a0, a1, a2] s = backF s.sl (evSs (cf n) WH b__law_takes.body ⟨[.fz a0, .fz a1, .fz a2, .un, .un], s.sh⟩) := by with_unfolding_all rfl
theorem u__law_kind (n : Nat) (a0 : D) (s : S) : C (n + 1) 39 [a0] s = backF s.sl (evSs (cf n) WH b__law_kind.body ⟨[.fz a0], s.sh⟩) := by with_unfolding_all rfl
theorem u__law_lots (n : Nat) (a0 : D) (s : S) : C (n + 1) 40 [a0] s = backF s.sl (evSs (cf n) WH b__law_lots.body ⟨[.fz a0, .un, .un, .un], s.sh⟩) := by with_unfolding_all rfl
theorem u__law_bent (n : Nat) (a0 : D) (a1 : D) (s : S) : C (n + 1) 41 [a0, a1] s = backF s.sl (evSs (cf n) WH b__law_bent.body ⟨[.fz a0, .fz a1, .un, .un, .un], s.sh⟩) := by with_unfolding_all rfl
theorem u__law_is_square (n : Nat) (a0 : D) (a1 : D) (s : S) : C (n + 1) 42 [a0, a1] s = backF s.sl (evSs (cf n) WH b__law_is_square.body ⟨[.fz a0, .fz a1, .un], s.sh⟩) := by with_unfolding_all rfl
theorem u__law_are_armies (n : Nat) (a0 : D) (a1 : D) (a2 : D) (a3 : D) (s : S) : C (n + 1) 43 [a0, a1, a2, a3] s = backF s.sl (evSs (cf n) WH b__law_are_armies.body ⟨[.fz a0, .fz a1, .fz a2, .fz a3, .un, .un, .un], s.sh⟩) := by with_unfolding_all rfl
theorem u__law_is_army (n : Nat) (a0 : D) (a1 : D) (s : S) : C (n + 1) 44 [a0, a1] s = backF s.sl (evSs (cf n) WH b__law_is_army.body ⟨[.fz a0, .fz a1, .un], s.sh⟩) := by with_unfolding_all rfl
theorem u__law_most (n : Nat) (a0 : D) (a1 : D) (a2 : D) (s : S) : C (n + 1) 45 [a0, a1, a2] s = backF s.sl (evSs (cf n) WH b__law_most.body ⟨[.fz a0, .fz a1, .fz a2, .un, .un, .un, .un, .un], s.sh⟩) := by with_unfolding_all rfl
theorem u__law_armies_right (n : Nat) (a0 : D) (a1 : D) (a2 : D) (a3 : D) (s : S) : C (n + 1) 46 [a0, a1, a2, a3] s = backF s.sl (evSs (cf n) WH b__law_armies_right.body ⟨[.fz a0, .fz a1, .fz a2, .fz a3, .un, .un, .un, .un, .un, .un, .un, .un], s.sh⟩) := by with_unfolding_all rfl
theorem u__law_quarrels (n : Nat) (a0 : D) (a1 : D) (s : S) : C (n + 1) 47 [a0, a1] s = backF s.sl (evSs (cf n) WH b__law_quarrels.body ⟨[.fz a0, .fz a1, .un, .un, .un], s.sh⟩) := by with_unfolding_all rfl
theorem u__law_calm_right (n : Nat) (a0 : D) (a1 : D) (s : S) : C (n + 1) 48 [a0, a1] s = backF s.sl (evSs (cf n) WH b__law_calm_right.body ⟨[.fz a0, .fz a1, .un, .un, .un, .un, .un, .un, .un], s.sh⟩) := by with_unfolding_all rfl
theorem u_law (n : Nat) (a0 : D) (s : S) : C (n + 1) 49 [a0] s = backF s.sl (evSs (cf n) WH b_law.body ⟨[.fz a0, .un, .un, .un, .un, .un, .un, .un, .un, .un, .un, .un, .un, .un], s.sh⟩) := by with_unfolding_all rfl
end Law

set_option maxRecDepth 100000
namespace Law
open PySem Pv Pw
theorem zip_next (l : List (Int × Int)) : zipD (l.map sq) ((l.map sq).tail) = (l.zip (l.drop 1)).map fun pq => .tup [sq pq.1, sq pq.2] := by
  unfold zipD
  rw [← List.map_tail, List.zipWith_map_left, List.zipWith_map_right, List.drop_one]
  generalize l.tail = m
  induction l generalizing m with
  | nil => rfl
  | cons a l ih =>
    cases m with
    | nil => rfl
    | cons b m => rw [List.zipWith_cons_cons, List.zip_cons_cons, List.map_cons, ih]
theorem next_lt {l : List (Int × Int)} (h : l.Pairwise sqLt) (pq : (Int × Int) × (Int × Int)) (hp : pq ∈ l.zip (l.drop 1)) : sqLt pq.1 pq.2 := by
  cases l with
  | nil => cases hp
  | cons a l =>
    rw [List.drop_one, List.tail_cons] at hp
    induction l generalizing a with
    | nil => simp at hp
    | cons b l ih =>
      rw [List.zip_cons_cons] at hp
      rcases List.mem_cons.mp hp with rfl | hp
      · exact (List.pairwise_cons.mp h).1 b (by simp)
      · exact ih b (List.pairwise_cons.mp h).2 hp
@[simp] theorem k_is_integer (n : Nat) (v : Int) (s : S) : C (n+1) n_is_integer [.int v] s = .ok (.bl true) s := by
  apply eq_of_wpR
  rw [u_is_integer]
  simp [b_is_integer]
@[simp] theorem k_is_whole (n : Nat) (v a b : Int) (s : S) : C (n+2) n_is_whole [.int v, .int a, .int b] s = .ok (.bl (decide (a ≤ v ∧ v ≤ b))) s := by
  apply eq_of_wpR
  rw [u_is_whole]
  simp [b_is_whole]
theorem k_need_whole (n : Nat) (v a b : Int) (s : S) (h : a ≤ v) (h2 : v ≤ b) : C (n+3) n_need_whole [.int v, .int a, .int b] s = .ok .non s := by
  apply eq_of_wpR
  rw [u_need_whole]
  simp [b_need_whole, h, h2]
@[simp] theorem k_is_tuple_of (n : Nat) (ds : List D) (a b : Int) (s : S) : C (n+1) n_is_tuple_of [.tup ds, .int a, .int b] s = .ok (.bl (decide (a ≤ ds.length ∧ (ds.length : Int) ≤ b))) s := by
  apply eq_of_wpR
  rw [u_is_tuple_of]
  simp [b_is_tuple_of]
@[simp] theorem k_is_tuple_of_bd (n : Nat) {R C' : Nat} {f : Int → Int → Bool} (a b : Int) (s : S) : C (n+1) n_is_tuple_of [bd R C' f, .int a, .int b] s = .ok (.bl (decide (a ≤ R ∧ (R : Int) ≤ b))) s := by
  unfold bd; rw [k_is_tuple_of, bdl_len]
@[simp] theorem k_is_tuple_of_sq (n : Nat) (p : Int × Int) (a b : Int) (s : S) : C (n+1) n_is_tuple_of [sq p, .int a, .int b] s = .ok (.bl (decide (a ≤ 2 ∧ 2 ≤ b))) s := by
  unfold sq; rw [k_is_tuple_of]; rfl
theorem k_is_word (n : Nat) {C' : Nat} {g : Int → Bool} (h1 : 1 ≤ C') (h2 : C' ≤ 24) (s : S) : C (n+1) n_is_word [.str (ln C' g), .str (("." : Str) ++ ("#" : Str)), .int 1, .int 24] s = .ok (.bl true) s := by
  apply eq_of_wpR
  rw [u_is_word]
  have : (1 : Int) ≤ C' := by omega
  have : (C' : Int) ≤ 24 := by omega
  have : C' ≤ 16777216 := by omega
  simp [b_is_word, *]
  rw [comp_map (g := fun _ => .bl true) rfl (by simp; omega) (fun c hc => by simp [ch_in])]
  simp
theorem k_is_pair_in (n : Nat) (p : Int × Int) (a b : Int) (s : S) : C (n+3) n_is_pair_in [sq p, .int a, .int b] s = .ok (.bl (decide ((0 ≤ p.1 ∧ p.1 ≤ a - 1) ∧ 0 ≤ p.2 ∧ p.2 ≤ b - 1))) s := by
  apply eq_of_wpR
  rw [u_is_pair_in]
  simp [b_is_pair_in]
theorem k_fits_board (n : Nat) {R C' : Nat} {f : Int → Int → Bool} (h : BdOk R C') (s : S) : C (n+2) n_fits_board [bd R C' f] s = .ok (.bl true) s := by
  apply eq_of_wpR
  rw [u_fits_board]
  obtain ⟨h1, h2, h3, h4, h5, h6, h7, h8, h9, h10⟩ := bdF h
  simp [b_fits_board, *]
  rw [comp_map (g := fun _ => .bl true) rfl (by simp; omega) (fun c hc => by simp [k_is_word, *]; rw [k_is_word n h2 h6]; simp)]
  simp [*]
  rw [comp_map (g := fun _ => .bl true) rfl (by simp; omega) (fun c hc => by simp [*])]
  simp
theorem k_need_board (n : Nat) {R C' : Nat} {f : Int → Int → Bool} (h : BdOk R C') (s : S) : C (n+3) n_need_board [bd R C' f] s = .ok .non s := by
  apply eq_of_wpR
  rw [u_need_board]
  simp [b_need_board, k_fits_board, *]
theorem k_fits_kind (n : Nat) {k : Kd} (h : KdOk k) (s : S) : C (n+3) n_fits_kind [kd k] s = .ok (.bl true) s := by
  apply eq_of_wpR
  rw [u_fits_kind]
  simp [b_fits_kind]
  intro h0
  obtain ⟨a, b, rfl⟩ := kd_tup h0
  obtain ⟨h1, h2, h3, h4⟩ := h
  simp [kd, *]
theorem k_need_kind (n : Nat) {k : Kd} (h : KdOk k) (s : S) : C (n+4) n_need_kind [kd k] s = .ok .non s := by
  apply eq_of_wpR
  rw [u_need_kind]
  simp [b_need_kind, k_fits_kind, *]
theorem k_squares_in (n : Nat) {R C' : Nat} {f : Int → Int → Bool} (h : BdOk R C') (s : S) : C (n+1) n_squares_in [bd R C' f] s = .ok (.tup ((sqs R C' f).map sq)) s := by
  apply eq_of_wpR
  rw [u_squares_in]
  obtain ⟨h1, h2, h3, h4, h5, h6, h7, h8, h9, h10⟩ := bdF h
  simp [b_squares_in, *]
  refine for_rule (fun p t => ∃ a b, t = ⟨[.fz (bd R C' f), .fz (.lst ((p.flatMap fun r => ((rng C').filter fun c => f r c).map fun c => (r, c)).map sq)), a, b, .un, .un], s.sh⟩) ⟨.un, .un, rfl⟩ ?_ ?_
  · rintro p r q _ hp ⟨a, b, rfl⟩
    simp
    rw [comp_filter (p := fun c => f r c) (g := fun c => sq (r, c)) rfl (by simp; omega) (fun c hc => by simp; cases f r c <;> simp [sq])]
    have hl := sqs_len_le C' f p
    have : p.length ≤ R := by have := congrArg List.length hp; simp at this; omega
    have : p.length * C' ≤ 24 * 24 := Nat.mul_le_mul (by omega) (by omega)
    have hf : ((rng C').filter fun c => f r c).length ≤ C' := Nat.le_trans (List.length_filter_le _ _) (by simp)
    have hadd : binD .Add (.lst (List.map sq (p.flatMap fun r => ((rng C').filter fun c => f r c).map fun c => (r, c)))) (.lst (((rng C').filter fun c => f r c).map fun c => sq (r, c))) = some (.lst (List.map sq (p.flatMap fun r => ((rng C').filter fun c => f r c).map fun c => (r, c)) ++ ((rng C').filter fun c => f r c).map fun c => sq (r, c))) :=
      b_addl _ _ (by rw [List.length_map, List.length_map, sz_line]; omega)
    simp [hadd, Function.comp_def]
  · rintro t ⟨a, b, rfl⟩
    simp [sqs]
theorem k_is_square_of (n : Nat) {R C' : Nat} {f : Int → Int → Bool} (h : BdOk R C') (p : Int × Int) (hp : p ∈ sqs R C' f) (s : S) : C (n+4) n_is_square_of [bd R C' f, sq p] s = .ok (.bl true) s := by
  apply eq_of_wpR
  rw [u_is_square_of]
  obtain ⟨h1, h2, h3, h4, h5, h6, h7, h8, h9, h10⟩ := bdF h
  obtain ⟨⟨g1, g2, g3, g4⟩, g5⟩ := sqs_mem.mp hp
  have : p.1 ≤ (R : Int) - 1 := by omega
  have : p.2 ≤ (C' : Int) - 1 := by omega
  simp [b_is_square_of, k_is_pair_in, *]
theorem k_is_rising (n : Nat) {l : List (Int × Int)} (h : l.Pairwise sqLt) (hl : l.length ≤ 16777216) (s : S) : C (n+1) n_is_rising [.tup (l.map sq)] s = .ok (.bl true) s := by
  apply eq_of_wpR
  rw [u_is_rising]
  simp [b_is_rising]
  rw [zip_next]
  rw [comp_map (enc := fun pq : (Int × Int) × (Int × Int) => .tup [sq pq.1, sq pq.2]) (g := fun _ => .bl true) rfl (by simp; omega) (fun pq hc => by simp [next_lt h _ hc])]
  simp
theorem k_fits_placed (n : Nat) {R C' : Nat} {f : Int → Int → Bool} (h : BdOk R C') {l : List (Int × Int)} (hs : l.Pairwise sqLt) (hp : ∀ p ∈ l, p ∈ sqs R C' f) (hl : l.length ≤ 16777216) (s : S) : C (n+5) n_fits_placed [bd R C' f, .tup (l.map sq)] s = .ok (.bl true) s := by
  apply eq_of_wpR
  rw [u_fits_placed]
  simp [b_fits_placed]
  rw [comp_map (g := fun _ => .bl true) rfl (by simp; omega) (fun c hc => by simp [k_is_square_of, *])]
  simp [k_is_rising, *]
theorem k_need_placed (n : Nat) {R C' : Nat} {f : Int → Int → Bool} (h : BdOk R C') {l : List (Int × Int)} (hs : l.Pairwise sqLt) (hp : ∀ p ∈ l, p ∈ sqs R C' f) (hl : l.length ≤ 16777216) (s : S) : C (n+6) n_need_placed [bd R C' f, .tup (l.map sq)] s = .ok .non s := by
  apply eq_of_wpR
  rw [u_need_placed]
  simp [b_need_placed]
  rw [k_fits_placed n h hs hp hl]
  simp
theorem k_takes (n : Nat) (k : Kd) (p q : Int × Int) (s : S) : C (n+1) n_takes [kd k, sq p, sq q] s = .ok (.bl (tak k p q)) s := by
  apply eq_of_wpR
  rw [u_takes]
  simp [b_takes]
  unfold tak
  generalize iabs (p.fst - q.fst) = d
  generalize iabs (p.snd - q.snd) = a
  by_cases h0 : d = 0 ∧ a = 0
  · simp [h0]
  · simp [h0]
    cases k <;> simp [kLines]
theorem k_stand_apart (n : Nat) (k : Kd) (l : List (Int × Int)) (hl : l.length ≤ 16777216) (s : S) : C (n+2) n_stand_apart [kd k, .tup (l.map sq)] s = .ok (.bl (!((rng l.length).any fun i => (l.take i.toNat).any fun q => tak k (l.getD i.toNat (0, 0)) q))) s := by
  apply eq_of_wpR
  rw [u_stand_apart]
  simp [b_stand_apart]
  rw [enum_list (0, 0), comp_map (g := fun i => .bl ((l.take i.toNat).any fun q => tak k (l.getD i.toNat (0, 0)) q)) rfl (by simpa using hl) (fun i hi => ?_)]
  · simp
  · simp [cut_take, (rng_mem.mp hi).1]
    rw [← List.map_take, comp_map (g := fun q => .bl (tak k (l[i.toNat]?.getD (0, 0)) q)) (by rfl) (by simp; omega) (fun q hq => by simp [k_takes])]
    simp [-List.map_take]
theorem k_do_stand_apart (n : Nat) {R C' : Nat} {f : Int → Int → Bool} (h : BdOk R C') {k : Kd} (hk : KdOk k) {l : List (Int × Int)} (hs : l.Pairwise sqLt) (hp : ∀ p ∈ l, p ∈ sqs R C' f) (hl : l.length ≤ 16777216) (s : S) : C (n+7) n_do_stand_apart [bd R C' f, kd k, .tup (l.map sq)] s = .ok (.bl (!((rng l.length).any fun i => (l.take i.toNat).any fun q => tak k (l.getD i.toNat (0, 0)) q))) s := by
  apply eq_of_wpR
  rw [u_do_stand_apart]
  simp [b_do_stand_apart, k_need_board, k_need_kind, k_need_placed, h, hk]
  rw [k_need_placed _ h hs hp hl]
  simp [k_stand_apart, hl]
end Law

set_option maxRecDepth 100000
namespace Law
open PySem Pv Pw
/-! the law's own defs -/
def Cup (sh : List D) : Prop := ∃ a b : Int, sh = [.lst [.int a, .int b]] ∧ 0 ≤ a ∧ 0 ≤ b ∧ b < 4294967296
theorem r_cup (n : Nat) (ns : List Int) (hl : ns.length ≤ 63) {Q : D → S → Prop} {sl : List Sl} (hQ : ∀ sh', Cup sh' → Q (.ref 0) ⟨sl, sh'⟩) : wpR (C (n+1) n__law_cup [.lst (ns.map .int)] ⟨sl, []⟩) Q := by
  rw [u__law_cup]
  have hlen : ns.length + 1 ≤ 16777216 := by omega
  cases ns with
  | nil =>
    simp [b__law_cup]
    exact hQ _ ⟨_, _, rfl, by decide, by decide, by decide⟩
  | cons i ns =>
    simp at hlen
    simp [b__law_cup, hlen]
    have hi : 0 ≤ iabs i := by unfold iabs; split <;> omega
    exact hQ _ ⟨_, _, rfl, by split <;> omega, by omega, by omega⟩
theorem r_roll (n : Nat) {sh : List D} (hc : Cup sh) (m : Int) (h0 : 0 < m) (h1 : m < 1073741824) {Q : D → S → Prop} {sl : List Sl} (hQ : ∀ r sh', 0 ≤ r → r < m → Cup sh' → Q (.int r) ⟨sl, sh'⟩) : wpR (C (n+1) n__law_roll [.ref 0, .int m] ⟨sl, sh⟩) Q := by
  rw [u__law_roll]
  obtain ⟨a, b, rfl, ha, hb, hb2⟩ := hc
  have g1 : (b * 31051 + 7993) % 2147483543 < 18446744073709551616 := by omega
  have g2 : -18446744073709551616 < (b * 31051 + 7993) % 2147483543 := by omega
  have hd : 0 ≤ a / m := Int.ediv_nonneg ha (by omega)
  simp [b__law_roll, h0, h1, g1, g2]
  split
  · exact hQ _ _ (Int.emod_nonneg _ (by omega)) (Int.emod_lt_of_pos _ h0) ⟨_, _, rfl, hd, hb, hb2⟩
  · exact hQ _ _ (Int.emod_nonneg _ (by omega)) (Int.emod_lt_of_pos _ h0) ⟨_, _, rfl, ha, by omega, by omega⟩
theorem r_some (n : Nat) {sh : List D} (hc : Cup sh) {ds : List D} (h0 : ds ≠ []) (h1 : ds.length < 1073741824) {Q : D → S → Prop} {sl : List Sl} (hQ : ∀ d sh', d ∈ ds → Cup sh' → Q d ⟨sl, sh'⟩) : wpR (C (n+2) n__law_some [.ref 0, .lst ds] ⟨sl, sh⟩) Q := by
  rw [u__law_some]
  have hp : 0 < ds.length := List.length_pos_iff.mpr h0
  simp [b__law_some]
  refine r_roll n hc _ (by omega) (by omega) fun r sh' g0 g1 hc' => ?_
  have e : atD ds r = some (ds[r.toNat]'(by omega)) := by
    rw [atD_pos g0 g1]; exact List.getElem?_eq_getElem _
  simp [e]
  exact hQ _ _ (List.getElem_mem _) hc'
/-! alike -/
mutual
def okk : D → Bool
  | .tup ds => decide (ds.length ≤ 16777216) && okkL ds
  | .lst ds => decide (ds.length ≤ 16777216) && okkL ds
  | .dict _ => false
  | .ref _ => false
  | _ => true
def okkL : List D → Bool
  | [] => true
  | d :: ds => okk d && okkL ds
end
theorem okkL_mem : ∀ {ds : List D}, okkL ds = true → ∀ d ∈ ds, okk d = true
  | [], _, d, h => by cases h
  | e :: ds, h, d, hd => by
    simp only [okkL, Bool.and_eq_true] at h
    rcases List.mem_cons.mp hd with rfl | hd
    · exact h.1
    · exact okkL_mem h.2 d hd
theorem depL_mem : ∀ {ds : List D} {d : D}, d ∈ ds → d.dep ≤ D.depL ds
  | e :: ds, d, hd => by
    show _ ≤ max e.dep (D.depL ds)
    rcases List.mem_cons.mp hd with rfl | hd
    · exact Nat.le_max_left _ _
    · exact Nat.le_trans (depL_mem hd) (Nat.le_max_right _ _)
def sortOf : D → Int
  | .non => 0
  | .bl _ => 1
  | .int _ => 2
  | .str _ => 3
  | .tup _ => 4
  | .lst _ => 5
  | _ => 6
theorem k_sort (n : Nat) (d : D) (h : okk d = true) (s : S) : C (n+1) n__law_sort [d] s = .ok (.int (sortOf d)) s := by
  apply eq_of_wpR
  rw [u__law_sort]
  cases d with
  | dict _ => cases h
  | ref _ => cases h
  | _ => simp [b__law_sort, isD, sortOf]
theorem zip_self (ds : List D) : zipD ds ds = ds.map fun d => .tup [d, d] := by
  unfold zipD
  induction ds with
  | nil => rfl
  | cons d ds ih => rw [List.zipWith_cons_cons, ih]; rfl
theorem eq_nil : eqD (.lst []) (.lst []) = some true := rfl
theorem eq_leaf_non : eqD .non .non = some true := rfl
theorem k_like : ∀ (k n : Nat) (d : D), okk d = true → d.dep ≤ k → ∀ s : S, C (n+k+2) n__law_like [d, d] s = .ok (.bl true) s := by
  intro k
  induction k with
  | zero =>
    intro n d h hd s
    apply eq_of_wpR
    rw [u__law_like]
    cases d with
    | dict _ => cases h
    | ref _ => cases h
    | tup ds => have : D.depL ds + 1 ≤ 0 := hd; omega
    | lst ds => have : D.depL ds + 1 ≤ 0 := hd; omega
    | _ =>
      simp [b__law_like, k_sort, h, sortOf, eq_leaf_non]
  | succ k ih =>
    intro n d h hd s
    apply eq_of_wpR
    rw [u__law_like]
    have aux : ∀ ds : List D, okkL ds = true → D.depL ds ≤ k → ds.length ≤ 16777216 → ∀ (a b c : D) (sh : List D), wpR (compM [3, 4] (turnM (bindM (.tp [.nm 3, .nm 4])) (evC (cf (n + (k + 1) + 1)) (.some (.not (.call n__law_like (.cons (.loc 3) (.cons (.loc 4) .nil)))))) (evE (cf (n + (k + 1) + 1)) (.con (.int 1)))) (zipD ds ds) ⟨[.fz a, .fz b, .fz c, .un, .un], sh⟩) fun d s => d = .lst [] ∧ s = ⟨[.fz a, .fz b, .fz c, .un, .un], sh⟩ := by
      intro ds h1 h2 h3 a b c sh
      rw [zip_self, comp_pure (g := fun _ => none) (by rfl) h3 (fun d hd => ?_)]
      · simp
      · have e : ∀ s, C (n + (k + 1) + 1) n__law_like [d, d] s = .ok (.bl true) s := fun s => ih n d (okkL_mem h1 d hd) (Nat.le_trans (depL_mem hd) h2) s
        simp [e]
    cases d with
    | tup ds =>
      simp only [okk, Bool.and_eq_true, decide_eq_true_eq] at h
      have hd' : D.depL ds + 1 ≤ k + 1 := hd
      simp [b__law_like, k_sort, h, okk, sortOf]
      refine wpR_mono (aux ds h.2 (by omega) h.1 _ _ _ _) ?_
      rintro _ _ ⟨rfl, rfl⟩
      simp [eq_nil]
    | lst ds =>
      simp only [okk, Bool.and_eq_true, decide_eq_true_eq] at h
      have hd' : D.depL ds + 1 ≤ k + 1 := hd
      simp [b__law_like, k_sort, h, okk, sortOf]
      refine wpR_mono (aux ds h.2 (by omega) h.1 _ _ _ _) ?_
      rintro _ _ ⟨rfl, rfl⟩
      simp [eq_nil]
    | dict _ => cases h
    | ref _ => cases h
    | _ => simp [b__law_like, k_sort, h, sortOf, eq_leaf_non]
end Law

set_option maxRecDepth 100000
namespace Law
open PySem Pv Pw
theorem r_board (n : Nat) {sh : List D} (hc : Cup sh) (most holes : Int) (h0 : 1 ≤ most) (h1 : most ≤ 24) (h2 : 0 ≤ holes) (h3 : holes ≤ 1000) {Q : D → S → Prop} {sl : List Sl} (hQ : ∀ (R C' : Nat) f sh', 1 ≤ R → (R : Int) ≤ most → 1 ≤ C' → (C' : Int) ≤ most → Cup sh' → Q (bd R C' f) ⟨sl, sh'⟩) : wpR (C (n+2) n__law_board [.ref 0, .int most, .int holes] ⟨sl, sh⟩) Q := by
  rw [u__law_board]
  simp [b__law_board]
  refine r_roll n hc _ (by omega) (by omega) fun r sh1 g0 g1 hc1 => ?_
  simp
  refine r_roll n hc1 _ (by omega) (by omega) fun c sh2 g2 g3 hc2 => ?_
  obtain ⟨R, hR⟩ : ∃ R : Nat, 1 + r = R := ⟨(1 + r).toNat, by omega⟩
  obtain ⟨C', hC⟩ : ∃ C' : Nat, 1 + c = C' := ⟨(1 + c).toNat, by omega⟩
  have hR2 : R ≤ 16777216 := by omega
  have hC2 : C' ≤ 16777216 := by omega
  simp [hR, hC, hR2]

  have hn : bdl ([] : List Int).length C' (fun _ _ => true) = [] := rfl
  refine for_rule (fun (p : List Int) (t : S) => ∃ f a b e sh', Cup sh' ∧ t = ⟨[.fz (.ref 0), .fz (.int most), .fz (.int holes), .ow (.lst (bdl p.length C' f)), a, .fz (.int R), .fz (.int C'), b, e], sh'⟩) ?_ ?_ ?_
  · refine ⟨fun _ _ => true, .un, .un, .un, sh2, hc2, ?_⟩
    rw [hn]
  · rintro p x q _ hp ⟨f, a, b, e, sh3, hc3, rfl⟩
    have hx := (rng_split hp).1
    have hpl := (rng_split hp).2
    subst hx
    simp [hC2]
    refine for_rule (fun (p' : List Int) (t : S) => ∃ g e sh', Cup sh' ∧ t = ⟨[.fz (.ref 0), .fz (.int most), .fz (.int holes), .ow (.lst (bdl p.length C' f)), .fz (.int p.length), .fz (.int R), .fz (.int C'), .fz (.str (ln p'.length g)), e], sh'⟩) ⟨fun _ => true, _, sh3, hc3, by rw [ln_nil]; rfl⟩ ?_ ?_
    · rintro p' x' q' _ hp' ⟨g, e', sh4, hc4, rfl⟩
      have hx' := (rng_split hp').1
      have hpl' := (rng_split hp').2
      subst hx'
      have h24 : p'.length + 1 ≤ 16777216 := by omega
      by_cases hh : 0 < holes
      · simp [hh]
        refine r_roll n hc4 _ (by omega) (by omega) fun z sh5 g5 g6 hc5 => ?_
        have hz : (if z = 0 then D.str "#" else D.str ".") = .str (ch (!decide (z = 0))) := by
          by_cases hz : z = 0
          · rw [if_pos hz, hz]; rfl
          · rw [if_neg hz, show decide (z = 0) = false from decide_eq_false hz]; rfl
        simp [hz, h24, ln_snoc]
        exact ⟨hc5, _, rfl⟩
      · simp [hh]
        have hz : (D.str ".") = .str (ch true) := rfl
        simp [hz, h24, ln_snoc]
        exact ⟨hc4, _, rfl⟩
    · rintro t ⟨g, e', sh4, hc4, rfl⟩
      have : p.length < 16777216 := by omega
      simp [this, bdl_snoc]
      exact ⟨hc4, _, rfl⟩
  · rintro t ⟨f, a, b, e, sh3, hc3, rfl⟩
    simp
    exact hQ R C' f sh3 (by omega) (by omega) (by omega) (by omega) hc3
theorem k_law_squares (n : Nat) {R C' : Nat} {f : Int → Int → Bool} (h : BdOk R C') (s : S) : C (n+1) n__law_squares [bd R C' f] s = .ok (.lst ((sqs R C' f).map sq)) s := by
  apply eq_of_wpR
  rw [u__law_squares]
  obtain ⟨h1, h2, h3, h4, h5, h6, h7, h8, h9, h10⟩ := bdF h
  simp [b__law_squares]
  refine for_rule (fun (p : List Int) (t : S) => ∃ a b, t = ⟨[.fz (bd R C' f), .fz (.lst ((p.flatMap fun r => ((rng C').filter fun c => f r c).map fun c => (r, c)).map sq)), a, b, .un], s.sh⟩) ⟨.un, .un, rfl⟩ ?_ ?_
  · rintro p r q _ hp ⟨a, b, rfl⟩
    simp [h4]
    rw [comp_filter (p := fun c => f r c) (g := fun c => sq (r, c)) (by rfl) (by simp; omega) (fun c hc => ?_)]
    rotate_left
    · simp [(rng_mem.mp hc).1, (rng_mem.mp hc).2, h4]
      cases f r c <;> simp [sq]
    have hl := sqs_len_le C' f p
    have : p.length ≤ R := by have := congrArg List.length hp; simp at this; omega
    have : p.length * C' ≤ 24 * 24 := Nat.mul_le_mul (by omega) (by omega)
    have hf : ((rng C').filter fun c => f r c).length ≤ C' := Nat.le_trans (List.length_filter_le _ _) (by simp)
    have hadd : binD .Add (.lst (List.map sq (p.flatMap fun r => ((rng C').filter fun c => f r c).map fun c => (r, c)))) (.lst (((rng C').filter fun c => f r c).map fun c => sq (r, c))) = some (.lst (List.map sq (p.flatMap fun r => ((rng C').filter fun c => f r c).map fun c => (r, c)) ++ ((rng C').filter fun c => f r c).map fun c => sq (r, c))) :=
      b_addl _ _ (by rw [List.length_map, List.length_map, sz_line]; omega)
    simp [hadd, Function.comp_def]
  · rintro t ⟨a, b, rfl⟩
    simp [sqs]
theorem r_kind (n : Nat) {sh : List D} (hc : Cup sh) {Q : D → S → Prop} {sl : List Sl} (hQ : ∀ k sh', KdOk k → Cup sh' → Q (kd k) ⟨sl, sh'⟩) : wpR (C (n+3) n__law_kind [.ref 0] ⟨sl, sh⟩) Q := by
  rw [u__law_kind]
  simp [b__law_kind]
  refine r_some n hc (by simp) (by simp) fun d sh' hd hc' => ?_
  simp at hd
  rcases hd with rfl | rfl | rfl | rfl | rfl | rfl | rfl | rfl | rfl
  · exact hQ .tower _ trivial hc'
  · exact hQ .runner _ trivial hc'
  · exact hQ .queen _ trivial hc'
  · exact hQ .king _ trivial hc'
  · exact hQ (.leap 1 0) _ (by simp [KdOk]) hc'
  · exact hQ (.leap 1 1) _ (by simp [KdOk]) hc'
  · exact hQ (.leap 2 1) _ (by simp [KdOk]) hc'
  · exact hQ (.leap 3 1) _ (by simp [KdOk]) hc'
  · exact hQ (.leap 3 2) _ (by simp [KdOk]) hc'
end Law

set_option maxRecDepth 100000
namespace Law
open PySem Pv Pw
/-! any plain values -/
theorem comp_mapD {vs : List Nat} {turn : D → M (Option D)} {g : D → D} {sl : List Sl} {sh : List D} {xs : List D} (h0 : noOwn sl vs = true) (hl : xs.length ≤ sizeLine)
    (ht : ∀ x ∈ xs, wpR (turn x ⟨wipeS sl vs, sh⟩) fun o s' => o = some (g x) ∧ s'.sh = sh ∧ wipeS s'.sl vs = wipeS sl vs) :
    compM vs turn xs ⟨sl, sh⟩ = .ok (.lst (xs.map g)) ⟨sl, sh⟩ := by
  have := comp_map (turn := turn) (enc := fun x : D => x) (g := g) (xs := xs) h0 hl ht
  rwa [List.map_id'] at this
theorem comp_filterD {vs : List Nat} {turn : D → M (Option D)} {p : D → Bool} {g : D → D} {sl : List Sl} {sh : List D} {xs : List D} (h0 : noOwn sl vs = true) (hl : xs.length ≤ sizeLine)
    (ht : ∀ x ∈ xs, wpR (turn x ⟨wipeS sl vs, sh⟩) fun o s' => o = (if p x = true then some (g x) else none) ∧ s'.sh = sh ∧ wipeS s'.sl vs = wipeS sl vs) :
    compM vs turn xs ⟨sl, sh⟩ = .ok (.lst ((xs.filter p).map g)) ⟨sl, sh⟩ := by
  have := comp_filter (turn := turn) (enc := fun x : D => x) (p := p) (g := g) (xs := xs) h0 hl ht
  rwa [List.map_id'] at this
mutual
def tny (m : Nat) : D → Bool
  | .tup ds => decide (ds.length ≤ m) && tnyL m ds
  | .lst ds => decide (ds.length ≤ m) && tnyL m ds
  | .dict _ => false
  | .ref _ => false
  | _ => true
def tnyL (m : Nat) : List D → Bool
  | [] => true
  | d :: ds => tny m d && tnyL m ds
end
theorem tnyL_iff {m : Nat} : ∀ {ds : List D}, tnyL m ds = true ↔ ∀ d ∈ ds, tny m d = true
  | [] => by simp [tnyL]
  | d :: ds => by
    simp only [tnyL, Bool.and_eq_true, tnyL_iff (ds := ds), List.mem_cons]
    constructor
    · rintro ⟨h, h'⟩ e (rfl | he)
      · exact h
      · exact h' e he
    · exact fun h => ⟨h d (.inl rfl), fun e he => h e (.inr he)⟩
mutual
theorem tny_mono {m m' : Nat} (hm : m ≤ m') : ∀ d : D, tny m d = true → tny m' d = true
  | .tup ds, h => by
    simp only [tny, Bool.and_eq_true, decide_eq_true_eq] at h ⊢
    exact ⟨Nat.le_trans h.1 hm, tnyL_mono hm ds h.2⟩
  | .lst ds, h => by
    simp only [tny, Bool.and_eq_true, decide_eq_true_eq] at h ⊢
    exact ⟨Nat.le_trans h.1 hm, tnyL_mono hm ds h.2⟩
  | .dict _, h => by simp [tny] at h
  | .ref _, h => by simp [tny] at h
  | .non, _ => rfl
  | .bl _, _ => rfl
  | .int _, _ => rfl
  | .str _, _ => rfl
theorem tnyL_mono {m m' : Nat} (hm : m ≤ m') : ∀ ds : List D, tnyL m ds = true → tnyL m' ds = true
  | [], _ => rfl
  | d :: ds, h => by
    simp only [tnyL, Bool.and_eq_true] at h ⊢
    exact ⟨tny_mono hm d h.1, tnyL_mono hm ds h.2⟩
end
mutual
theorem tny_okk {m : Nat} (hm : m ≤ 16777216) : ∀ d : D, tny m d = true → okk d = true
  | .tup ds, h => by
    simp only [tny, okk, Bool.and_eq_true, decide_eq_true_eq] at h ⊢
    exact ⟨Nat.le_trans h.1 hm, tnyL_okk hm ds h.2⟩
  | .lst ds, h => by
    simp only [tny, okk, Bool.and_eq_true, decide_eq_true_eq] at h ⊢
    exact ⟨Nat.le_trans h.1 hm, tnyL_okk hm ds h.2⟩
  | .dict _, h => by simp [tny] at h
  | .ref _, h => by simp [tny] at h
  | .non, _ => rfl
  | .bl _, _ => rfl
  | .int _, _ => rfl
  | .str _, _ => rfl
theorem tnyL_okk {m : Nat} (hm : m ≤ 16777216) : ∀ ds : List D, tnyL m ds = true → okkL ds = true
  | [], _ => rfl
  | d :: ds, h => by
    simp only [tnyL, okkL, Bool.and_eq_true] at h ⊢
    exact ⟨tny_okk hm d h.1, tnyL_okk hm ds h.2⟩
end
mutual
theorem tny_pl {m : Nat} : ∀ d : D, tny m d = true → d.pl = true
  | .tup ds, h => by
    simp only [tny, Bool.and_eq_true] at h
    exact tnyL_pl ds h.2
  | .lst ds, h => by
    simp only [tny, Bool.and_eq_true] at h
    exact tnyL_pl ds h.2
  | .dict _, h => by simp [tny] at h
  | .ref _, h => by simp [tny] at h
  | .non, _ => rfl
  | .bl _, _ => rfl
  | .int _, _ => rfl
  | .str _, _ => rfl
theorem tnyL_pl {m : Nat} : ∀ ds : List D, tnyL m ds = true → D.plL ds = true
  | [], _ => rfl
  | d :: ds, h => by
    simp only [tnyL, D.plL, Bool.and_eq_true] at h ⊢
    exact ⟨tny_pl d h.1, tnyL_pl ds h.2⟩
end
theorem tny_tup {m : Nat} {ds : List D} : tny m (.tup ds) = true ↔ ds.length ≤ m ∧ ∀ d ∈ ds, tny m d = true := by
  simp only [tny, Bool.and_eq_true, decide_eq_true_eq, tnyL_iff]
theorem tny_lst {m : Nat} {ds : List D} : tny m (.lst ds) = true ↔ ds.length ≤ m ∧ ∀ d ∈ ds, tny m d = true := by
  simp only [tny, Bool.and_eq_true, decide_eq_true_eq, tnyL_iff]
theorem depL_le {ds : List D} {n : Nat} : D.depL ds ≤ n ↔ ∀ d ∈ ds, d.dep ≤ n := by
  induction ds with
  | nil => simp [D.depL]
  | cons d ds ih => simp only [D.depL, Nat.max_le, ih, List.mem_cons, forall_eq_or_imp]
/-- a list of plain things against none -/
theorem eq_nilL {ds : List D} (h : D.plL ds = true) (hd : D.depL ds ≤ 59) : eqD (.lst ds) (.lst []) = some ds.isEmpty := by
  have h1 : (D.lst ds).shp = true := by
    have : (D.lst ds).dep = D.depL ds + 1 := rfl
    unfold D.shp
    rw [Bool.and_eq_true, decide_eq_true_eq]
    exact ⟨h, by omega⟩
  unfold eqD
  rw [h1]
  cases ds <;> rfl
theorem eq_nilT {ds : List D} (h : D.plL ds = true) (hd : D.depL ds ≤ 59) : eqD (.tup ds) (.tup []) = some ds.isEmpty := by
  have h1 : (D.tup ds).shp = true := by
    have : (D.tup ds).dep = D.depL ds + 1 := rfl
    unfold D.shp
    rw [Bool.and_eq_true, decide_eq_true_eq]
    exact ⟨h, by omega⟩
  unfold eqD
  rw [h1]
  cases ds <;> rfl
def whV (a b : Int) : D → Bool
  | .int v => decide (a ≤ v ∧ v ≤ b)
  | _ => false
def isIV : D → Bool
  | .int _ => true
  | _ => false
def tupV (a b : Int) : D → Bool
  | .tup ds => decide (a ≤ ds.length ∧ (ds.length : Int) ≤ b)
  | _ => false
def isSq (l : List (Int × Int)) : D → Bool
  | .tup [.int a, .int b] => decide ((a, b) ∈ l)
  | _ => false
def sqOf : D → Int × Int
  | .tup [.int a, .int b] => (a, b)
  | _ => (0, 0)
def sqL : D → List (Int × Int)
  | .tup ds => ds.map sqOf
  | _ => []
@[simp] theorem sqOf_sq (p : Int × Int) : sqOf (sq p) = p := id rfl
@[simp] theorem sqL_sqs (l : List (Int × Int)) : sqL (.tup (l.map sq)) = l := by
  show (l.map sq).map sqOf = l
  rw [List.map_map]
  exact List.map_id' l
@[simp] theorem isSq_sq (l : List (Int × Int)) (p : Int × Int) : isSq l (sq p) = decide (p ∈ l) := id rfl
theorem isSq_iff {l : List (Int × Int)} {d : D} : isSq l d = true ↔ ∃ p, p ∈ l ∧ d = sq p := by
  constructor
  · intro h
    unfold isSq at h
    split at h
    · exact ⟨_, of_decide_eq_true h, rfl⟩
    · cases h
  · rintro ⟨p, hp, rfl⟩
    simp [hp]
theorem k_is_integerV (n : Nat) (d : D) (h : d.pl = true) (s : S) : C (n+1) n_is_integer [d] s = .ok (.bl (isIV d)) s := by
  apply eq_of_wpR
  rw [u_is_integer]
  cases d with
  | dict _ => cases h
  | ref _ => cases h
  | _ => simp [b_is_integer, isIV]
theorem k_is_wholeV (n : Nat) (d : D) (h : d.pl = true) (a b : Int) (s : S) : C (n+2) n_is_whole [d, .int a, .int b] s = .ok (.bl (whV a b d)) s := by
  apply eq_of_wpR
  rw [u_is_whole]
  have e : ∀ s, C (n+1) n_is_integer [d] s = .ok (.bl (isIV d)) s := fun s => k_is_integerV n d h s
  simp [b_is_whole, e]
  cases d with
  | int v => simp [whV, isIV]
  | _ => simp [whV, isIV]
theorem k_is_tuple_ofV (n : Nat) (d : D) (h : d.pl = true) (a b : Int) (s : S) : C (n+1) n_is_tuple_of [d, .int a, .int b] s = .ok (.bl (tupV a b d)) s := by
  apply eq_of_wpR
  rw [u_is_tuple_of]
  cases d with
  | dict _ => cases h
  | ref _ => cases h
  | _ => simp [b_is_tuple_of, tupV]
end Law

set_option maxRecDepth 100000
namespace Law
open PySem Pv Pw
theorem pl_mem {ds : List D} (h : (D.tup ds).pl = true) {d : D} (hd : d ∈ ds) : d.pl = true := by
  have h : D.plL ds = true := h
  induction ds with
  | nil => cases hd
  | cons e ds ih =>
    simp only [D.plL, Bool.and_eq_true] at h
    rcases List.mem_cons.mp hd with rfl | hd
    · exact h.1
    · exact ih h.2 hd h.2
theorem tup2 {ds : List D} (h : ds.length = 2) : ∃ x y, ds = [x, y] := by
  match ds, h with
  | [x, y], _ => exact ⟨x, y, rfl⟩
def pairV (a b : Int) : D → Bool
  | .tup [.int x, .int y] => decide ((0 ≤ x ∧ x ≤ a - 1) ∧ 0 ≤ y ∧ y ≤ b - 1)
  | _ => false
theorem pairV_2 (a b : Int) (x y : D) : pairV a b (.tup [x, y]) = (whV 0 (a - 1) x && whV 0 (b - 1) y) := by
  cases x <;> cases y <;> simp [pairV, whV]
theorem pairV_n {a b : Int} {ds : List D} (h : ds.length ≠ 2) : pairV a b (.tup ds) = false := by
  unfold pairV
  split
  · rename_i e; cases e; exact absurd rfl h
  · rfl
theorem k_is_pair_inV (n : Nat) (d : D) (h : d.pl = true) (a b : Int) (s : S) : C (n+3) n_is_pair_in [d, .int a, .int b] s = .ok (.bl (pairV a b d)) s := by
  apply eq_of_wpR
  rw [u_is_pair_in]
  have e : ∀ s, C (n+2) n_is_tuple_of [d, .int 2, .int 2] s = .ok (.bl (tupV 2 2 d)) s := fun s => k_is_tuple_ofV (n+1) d h 2 2 s
  simp [b_is_pair_in, e]
  cases d with
  | tup ds =>
    by_cases hl : ds.length = 2
    · obtain ⟨x, y, rfl⟩ := tup2 hl
      have e1 : ∀ s, C (n+2) n_is_whole [x, .int 0, .int (a - 1)] s = .ok (.bl (whV 0 (a - 1) x)) s := fun s => k_is_wholeV n x (pl_mem h (by simp)) _ _ s
      have e2 : ∀ s, C (n+2) n_is_whole [y, .int 0, .int (b - 1)] s = .ok (.bl (whV 0 (b - 1) y)) s := fun s => k_is_wholeV n y (pl_mem h (by simp)) _ _ s
      simp [tupV, pairV_2, e1, e2]
    · have : ¬ ((2 : Int) ≤ ds.length ∧ (ds.length : Int) ≤ 2) := by omega
      simp [tupV, this, pairV_n hl]
  | _ => simp [tupV, pairV]
theorem pairV_true {a b : Int} {d : D} (h : pairV a b d = true) : ∃ p : Int × Int, d = sq p ∧ (0 ≤ p.1 ∧ p.1 ≤ a - 1) ∧ 0 ≤ p.2 ∧ p.2 ≤ b - 1 := by
  unfold pairV at h
  split at h
  · exact ⟨(_, _), rfl, of_decide_eq_true h⟩
  · cases h
theorem isSq_pair {R C' : Nat} {f : Int → Int → Bool} {d : D} (h : pairV R C' d = false) : isSq (sqs R C' f) d = false := by
  rw [Bool.eq_false_iff]
  intro hh
  obtain ⟨p, hp, rfl⟩ := isSq_iff.mp hh
  obtain ⟨⟨g1, g2, g3, g4⟩, g5⟩ := sqs_mem.mp hp
  rw [show pairV R C' (sq p) = decide ((0 ≤ p.1 ∧ p.1 ≤ (R : Int) - 1) ∧ 0 ≤ p.2 ∧ p.2 ≤ (C' : Int) - 1) from rfl] at h
  have := of_decide_eq_false h
  omega
theorem k_is_square_ofV (n : Nat) {R C' : Nat} {f : Int → Int → Bool} (h : BdOk R C') (d : D) (hd : d.pl = true) (s : S) : C (n+4) n_is_square_of [bd R C' f, d] s = .ok (.bl (isSq (sqs R C' f) d)) s := by
  apply eq_of_wpR
  rw [u_is_square_of]
  obtain ⟨h1, h2, h3, h4, h5, h6, h7, h8, h9, h10⟩ := bdF h
  have e : ∀ s, C (n+3) n_is_pair_in [d, .int R, .int C'] s = .ok (.bl (pairV R C' d)) s := fun s => k_is_pair_inV n d hd R C' s
  simp [b_is_square_of, e, *]
  cases hp : pairV R C' d with
  | false => simp [isSq_pair hp]
  | true =>
    obtain ⟨p, rfl, ⟨g1, g2⟩, g3, g4⟩ := pairV_true hp
    have g5 : p.1 < R := by omega
    have g6 : p.2 < C' := by omega
    simp [*]
    rw [Bool.eq_iff_iff, decide_eq_true_iff, sqs_mem]
    simp [inB, *]
theorem k_law_is_square (n : Nat) {R C' : Nat} {f : Int → Int → Bool} (h : BdOk R C') (d : D) (hd : okk d = true) (hp : d.pl = true) (hdep : d.dep ≤ 50) (s : S) : C (n+2) n__law_is_square [bd R C' f, d] s = .ok (.bl (isSq (sqs R C' f) d)) s := by
  apply eq_of_wpR
  rw [u__law_is_square]
  obtain ⟨h1, h2, h3, h4, h5, h6, h7, h8, h9, h10⟩ := bdF h
  cases d with
  | tup ds =>
    by_cases hl : ds.length = 2
    · obtain ⟨x, y, rfl⟩ := tup2 hl
      simp [b__law_is_square]
      rw [comp_filterD (p := fun x => !decide (sortOf x = 2)) (g := fun x => x) (by rfl) (by simp) (fun z hz => ?_)]
      rotate_left
      · have hz' : okk z = true := by
          simp only [okk, Bool.and_eq_true] at hd
          exact okkL_mem hd.2 z hz
        simp [k_sort, hz']
      have hpl : D.plL ([x, y].filter fun x => !decide (sortOf x = 2)) = true := by
        have hx := pl_mem hp (d := x) (by simp)
        have hy := pl_mem hp (d := y) (by simp)
        cases x <;> cases y <;> simp_all [sortOf, D.plL, D.pl, List.filter]
      have hdp : D.depL ([x, y].filter fun x => !decide (sortOf x = 2)) ≤ 59 := by
        have hdep : D.depL [x, y] + 1 ≤ 50 := hdep
        have := depL_le.mp (show D.depL [x, y] ≤ 49 by omega)
        exact depL_le.mpr fun z hz => Nat.le_trans (this z ((List.mem_filter.mp hz).1)) (by decide)
      have e := eq_nilL hpl hdp
      simp only [List.map_id'] at e ⊢
      simp [e]
      cases x with
      | int a =>
        cases y with
        | int b =>
          by_cases g1 : 0 ≤ a
          · by_cases g2 : a < R
            · by_cases g3 : 0 ≤ b
              · by_cases g4 : b < C'
                · simp [sortOf, isSq, *]
                  rw [Bool.eq_iff_iff, decide_eq_true_iff, sqs_mem]
                  simp [inB, *]
                · simp [sortOf, isSq, *]
                  rw [sqs_mem]
                  simp [inB, *]
              · simp [sortOf, isSq, *]
                rw [sqs_mem]
                simp [inB, *]
            · simp [sortOf, isSq, *]
              rw [sqs_mem]
              simp [inB, *]
          · simp [sortOf, isSq, *]
            rw [sqs_mem]
            simp [inB, *]
        | _ => simp [sortOf, isSq]
      | _ => cases y <;> simp [sortOf, isSq]
    · have e : isSq (sqs R C' f) (.tup ds) = false := by
        unfold isSq
        split
        · rename_i e; cases e; exact absurd rfl hl
        · rfl
      have : ¬ (ds.length : Int) = 2 := by omega
      simp [b__law_is_square, this, e, hl]
  | dict _ => cases hd
  | ref _ => cases hd
  | _ => simp [b__law_is_square, isSq]
end Law

set_option maxRecDepth 100000
namespace Law
open PySem Pv Pw
/-! rising, armies -/
theorem rise_pair : ∀ l : List (Int × Int), ((l.zip (l.drop 1)).all fun pq => decide (sqLt pq.1 pq.2)) = decide (l.Pairwise sqLt)
  | [] => by simp
  | [a] => by simp
  | a :: b :: l => by
    have ih := rise_pair (b :: l)
    rw [List.drop_one, List.tail_cons] at ih ⊢
    rw [List.zip_cons_cons, List.all_cons, ih]
    rw [Bool.eq_iff_iff, Bool.and_eq_true, decide_eq_true_iff, decide_eq_true_iff, decide_eq_true_iff]
    constructor
    · rintro ⟨h, h'⟩
      refine List.pairwise_cons.mpr ⟨fun c hc => ?_, h'⟩
      rcases List.mem_cons.mp hc with rfl | hc
      · exact h
      · exact sqLt_trans h ((List.pairwise_cons.mp h').1 c hc)
    · intro h
      exact ⟨(List.pairwise_cons.mp h).1 b (by simp), (List.pairwise_cons.mp h).2⟩
theorem k_is_risingV (n : Nat) (l : List (Int × Int)) (hl : l.length ≤ 16777216) (s : S) : C (n+1) n_is_rising [.tup (l.map sq)] s = .ok (.bl (decide (l.Pairwise sqLt))) s := by
  apply eq_of_wpR
  rw [u_is_rising]
  simp [b_is_rising]
  rw [zip_next]
  rw [comp_map (enc := fun pq : (Int × Int) × (Int × Int) => .tup [sq pq.1, sq pq.2]) (g := fun pq => .bl (decide (sqLt pq.1 pq.2))) rfl (by simp; omega) (fun pq hc => by simp)]
  simp [← rise_pair]
/-- an army of squares of a board -/
def isArmy (l0 : List (Int × Int)) : D → Bool
  | .tup ds => ds.all (isSq l0) && decide ((ds.map sqOf).Pairwise sqLt)
  | _ => false
theorem allSq {l0 : List (Int × Int)} : ∀ {ds : List D}, ds.all (isSq l0) = true → ∃ l : List (Int × Int), ds = l.map sq ∧ ∀ p ∈ l, p ∈ l0
  | [], _ => ⟨[], rfl, by simp⟩
  | d :: ds, h => by
    rw [List.all_cons, Bool.and_eq_true] at h
    obtain ⟨p, hp, rfl⟩ := isSq_iff.mp h.1
    obtain ⟨l, rfl, hl⟩ := allSq h.2
    refine ⟨p :: l, rfl, fun q hq => ?_⟩
    rcases List.mem_cons.mp hq with rfl | hq
    · exact hp
    · exact hl q hq
theorem isArmy_sqs (l0 l : List (Int × Int)) : isArmy l0 (.tup (l.map sq)) = ((l.all fun p => decide (p ∈ l0)) && decide (l.Pairwise sqLt)) := by
  show ((l.map sq).all (isSq l0) && decide (((l.map sq).map sqOf).Pairwise sqLt)) = _
  rw [show (l.map sq).map sqOf = l from sqL_sqs l, List.all_map]
  rfl
theorem isArmy_iff {l0 : List (Int × Int)} {d : D} : isArmy l0 d = true ↔ ∃ l : List (Int × Int), d = .tup (l.map sq) ∧ (∀ p ∈ l, p ∈ l0) ∧ l.Pairwise sqLt := by
  constructor
  · intro h
    cases d with
    | tup ds =>
      have h' := h
      unfold isArmy at h
      rw [Bool.and_eq_true] at h
      obtain ⟨l, rfl, hl⟩ := allSq h.1
      rw [isArmy_sqs, Bool.and_eq_true] at h'
      exact ⟨l, rfl, hl, of_decide_eq_true h'.2⟩
    | _ => cases h
  · rintro ⟨l, rfl, h1, h2⟩
    rw [isArmy_sqs]
    simp [h2]
    exact fun a b => h1 (a, b)
theorem k_fits_placedV (n : Nat) {R C' : Nat} {f : Int → Int → Bool} (h : BdOk R C') (d : D) (hp : d.pl = true) (hk : okk d = true) (s : S) : C (n+5) n_fits_placed [bd R C' f, d] s = .ok (.bl (isArmy (sqs R C' f) d)) s := by
  apply eq_of_wpR
  rw [u_fits_placed]
  cases d with
  | tup ds =>
    have hl : ds.length ≤ 16777216 := by
      simp only [okk, Bool.and_eq_true, decide_eq_true_eq] at hk
      exact hk.1
    simp [b_fits_placed]
    rw [comp_mapD (g := fun x => .bl (isSq (sqs R C' f) x)) (by rfl) hl (fun c hc => ?_)]
    rotate_left
    · have e : ∀ s, C (n+4) n_is_square_of [bd R C' f, c] s = .ok (.bl (isSq (sqs R C' f) c)) s := fun s => k_is_square_ofV n h c (pl_mem hp hc) s
      simp [e]
    simp
    cases ha : ds.all (isSq (sqs R C' f)) with
    | false =>
      simp [isArmy, ha]
      intro hx
      rw [List.all_eq_true.mpr hx] at ha
      cases ha
    | true =>
      obtain ⟨l, rfl, hl'⟩ := allSq ha
      have hl : l.length ≤ 16777216 := by simpa using hl
      have e : ∀ s, C (n+4) n_is_rising [.tup (l.map sq)] s = .ok (.bl (decide (l.Pairwise sqLt))) s := fun s => k_is_risingV (n+3) l hl s
      simp [e, isArmy_sqs]
      rw [if_pos (List.all_eq_true.mp ha)]
      exact fun _ a b => hl' (a, b)
  | dict _ => cases hp
  | ref _ => cases hp
  | _ => simp [b_fits_placed, isArmy]
/-! the sets of squares -/
theorem sq_eqv (p q : Int × Int) : (sq p).eqv (sq q) = decide (p = q) := by
  have := eqD_sq p q
  unfold eqD at this
  rw [sq_shp, sq_shp] at this
  simpa using this
theorem ded_sqs : ∀ (l acc : List (Int × Int)), acc.Nodup → ∃ m : List (Int × Int), dedD (acc.map sq) (l.map sq) = m.map sq ∧ m.Nodup ∧ ∀ x, x ∈ m ↔ x ∈ acc ∨ x ∈ l
  | [], acc, h => ⟨acc, rfl, h, by simp⟩
  | p :: l, acc, h => by
    have e : (acc.map sq).any (fun x => x.eqv (sq p)) = decide (p ∈ acc) := by
      rw [Bool.eq_iff_iff, List.any_eq_true, decide_eq_true_iff]
      constructor
      · rintro ⟨x, hx, hx2⟩
        obtain ⟨q, hq, rfl⟩ := List.mem_map.mp hx
        rw [sq_eqv] at hx2
        exact of_decide_eq_true hx2 ▸ hq
      · intro hp
        exact ⟨sq p, List.mem_map_of_mem hp, by rw [sq_eqv]; simp⟩
    by_cases hp : p ∈ acc
    · obtain ⟨m, e1, e2, e3⟩ := ded_sqs l acc h
      refine ⟨m, ?_, e2, fun x => ?_⟩
      · rw [List.map_cons, dedD, e, if_pos (by simpa using hp), e1]
      · rw [e3, List.mem_cons]
        constructor
        · rintro (h | h)
          · exact .inl h
          · exact .inr (.inr h)
        · rintro (h | rfl | h)
          · exact .inl h
          · exact .inl hp
          · exact .inr h
    · have hn : (acc ++ [p]).Nodup := by
        rw [List.nodup_append]
        refine ⟨h, by simp, fun x hx y hy => ?_⟩
        rw [List.mem_singleton.mp hy]
        exact fun e => hp (e ▸ hx)
      obtain ⟨m, e1, e2, e3⟩ := ded_sqs l (acc ++ [p]) hn
      refine ⟨m, ?_, e2, fun x => ?_⟩
      · rw [List.map_cons, dedD, e, if_neg (by simpa using hp)]
        rw [List.map_append] at e1
        exact e1
      · rw [e3, List.mem_append, List.mem_singleton, List.mem_cons, or_assoc]
theorem sqs_setOk (l : List (Int × Int)) (h : l.length < 64) : setOk (l.map sq) = true := by
  unfold setOk
  rw [Bool.and_eq_true, Bool.and_eq_true, decide_eq_true_iff]
  refine ⟨⟨?_, by simpa using h⟩, ?_⟩
  · unfold aliAll
    rw [List.all_eq_true]
    intro x hx
    rw [List.all_eq_true]
    intro y hy
    obtain ⟨p, _, rfl⟩ := List.mem_map.mp hx
    obtain ⟨q, _, rfl⟩ := List.mem_map.mp hy
    exact sq_ali p q
  · rw [List.all_eq_true]
    intro x hx
    obtain ⟨p, _, rfl⟩ := List.mem_map.mp hx
    rfl
theorem srt_sqs (l : List (Int × Int)) (h : l.length ≤ sizeLine) : srtD (l.map sq) = some ((sortSq l).map sq) := by
  have := v_sortedSq l h
  have e : sortedD [.lst (l.map sq)] = (srtD (l.map sq)).map D.lst := rfl
  rw [e] at this
  cases e2 : srtD (l.map sq) with
  | none => rw [e2] at this; cases this
  | some z =>
    rw [e2] at this
    have : D.lst z = D.lst ((sortSq l).map sq) := Option.some.inj this
    rw [D.lst.inj this]
theorem sortSet_sqs (l : List (Int × Int)) (h : l.length < 64) : ∃ m : List (Int × Int), sortSetD [.tup (l.map sq)] = some (.lst (m.map sq)) ∧ m.Pairwise sqLt ∧ ∀ x, x ∈ m ↔ x ∈ l := by
  obtain ⟨m, e1, e2, e3⟩ := ded_sqs l [] List.nodup_nil
  have e4 : dedD [] (l.map sq) = m.map sq := e1
  have hlen : m.length ≤ l.length := by
    have := ded_len (l.map sq) []
    rw [e4] at this
    simpa using this
  refine ⟨sortSq m, ?_, sortSq_lt e2, fun x => ?_⟩
  · show (if setOk (l.map sq) then (srtD (dedD [] (l.map sq))).map D.lst else none) = _
    rw [if_pos (sqs_setOk l h), e4, srt_sqs m (by rw [sz_line]; omega)]
    rfl
  · rw [(sortSq_perm m).mem_iff, e3]
    simp
theorem isArmy_len {d : D} {m : Nat} (ht : tny m d = true) {l : List (Int × Int)} (e : d = .tup (l.map sq)) : l.length ≤ m := by
  subst e
  simpa using (tny_tup.mp ht).1
theorem k_law_is_army (n : Nat) {R C' : Nat} {f : Int → Int → Bool} (h : BdOk R C') (d : D) (ht : tny 40 d = true) (hdep : d.dep ≤ 40) (s : S) : C (n+3) n__law_is_army [bd R C' f, d] s = .ok (.bl (isArmy (sqs R C' f) d)) s := by
  apply eq_of_wpR
  rw [u__law_is_army]
  have hp := tny_pl d ht
  cases d with
  | tup ds =>
    have ht' := tny_tup.mp ht
    have hl : ds.length ≤ 16777216 := by omega
    have hdep : D.depL ds + 1 ≤ 40 := hdep
    have hdp := depL_le.mp (show D.depL ds ≤ 39 by omega)
    simp [b__law_is_army]
    rw [comp_filterD (p := fun x => !isSq (sqs R C' f) x) (g := fun x => x) (by rfl) hl (fun c hc => ?_)]
    rotate_left
    · have e : ∀ s, C (n+2) n__law_is_square [bd R C' f, c] s = .ok (.bl (isSq (sqs R C' f) c)) s := fun s => k_law_is_square n h c (tny_okk (by decide) c (ht'.2 c hc)) (pl_mem hp hc) (Nat.le_trans (hdp c hc) (by decide)) s
      simp [e]
    have hpl : D.plL (ds.filter fun x => !isSq (sqs R C' f) x) = true := tnyL_pl (m := 40) _ (tnyL_iff.mpr fun z hz => ht'.2 z (List.mem_filter.mp hz).1)
    have hdp2 : D.depL (ds.filter fun x => !isSq (sqs R C' f) x) ≤ 59 := depL_le.mpr fun z hz => Nat.le_trans (hdp z (List.mem_filter.mp hz).1) (by decide)
    have e := eq_nilL hpl hdp2
    have e2 : (ds.filter fun x => !isSq (sqs R C' f) x).isEmpty = ds.all (isSq (sqs R C' f)) := by
      rw [Bool.eq_iff_iff, List.isEmpty_iff, List.filter_eq_nil_iff, List.all_eq_true]
      simp
    rw [e2] at e
    simp only [List.map_id'] at e ⊢
    simp [e]
    cases ha : ds.all (isSq (sqs R C' f)) with
    | false =>
      simp [isArmy, ha]
      intro hx
      rw [List.all_eq_true.mpr hx] at ha
      cases ha
    | true =>
      obtain ⟨l, rfl, hl'⟩ := allSq ha
      have hl40 : l.length ≤ 40 := by simpa using ht'.1
      obtain ⟨m, e3, e4, e5⟩ := sortSet_sqs l (by omega)
      have e6 : decide (l = m) = decide (l.Pairwise sqLt) := by
        rw [Bool.eq_iff_iff, decide_eq_true_iff, decide_eq_true_iff]
        constructor
        · intro e; rw [e]; exact e4
        · intro e; exact asc_ext e e4 fun x => (e5 x).symm
      simp [e3, isArmy_sqs, e6]
      rw [if_neg (by rintro ⟨x, hx, h'⟩; rw [List.all_eq_true.mp ha x hx] at h'; cases h')]
      exact fun _ a b => hl' (a, b)
  | dict _ => cases hp
  | ref _ => cases hp
  | _ => simp [b__law_is_army, isArmy]
theorem k_law_takes (n : Nat) (k : Kd) (p q : Int × Int) (s : S) : C (n+1) n__law_takes [kd k, sq p, sq q] s = .ok (.bl (tak k p q)) s := by
  apply eq_of_wpR
  rw [u__law_takes]
  have hz : p = q ↔ iabs (p.1 - q.1) = 0 ∧ iabs (p.2 - q.2) = 0 := by
    rw [Prod.ext_iff]
    unfold iabs
    constructor
    · rintro ⟨h1, h2⟩
      constructor <;> split <;> omega
    · rintro ⟨h1, h2⟩
      constructor
      · split at h1 <;> omega
      · split at h2 <;> omega
  have h1 : 0 ≤ iabs (p.1 - q.1) := by unfold iabs; split <;> omega
  have h2 : 0 ≤ iabs (p.2 - q.2) := by unfold iabs; split <;> omega
  simp [b__law_takes, hz]
  unfold tak
  generalize iabs (p.fst - q.fst) = d at *
  generalize iabs (p.snd - q.snd) = a at *
  by_cases h0 : d = 0 ∧ a = 0
  · simp [h0]
  · simp [h0]
    cases k with
    | king =>
      simp
      rw [Bool.eq_iff_iff, decide_eq_true_iff, Bool.and_eq_true, decide_eq_true_iff, decide_eq_true_iff]
      split <;> omega
    | queen => simp [Bool.or_assoc]
    | _ => simp
end Law

set_option maxRecDepth 100000
namespace Law
open PySem Pv Pw
def clash (k1 k2 : Kd) (p q : Int × Int) : Bool := decide (p = q) || (tak k1 p q || tak k2 q p)
def isArmies (l0 : List (Int × Int)) (k1 k2 : Kd) : D → Bool
  | .tup [x, y] => isArmy l0 x && isArmy l0 y && (sqL x).all fun p => (sqL y).all fun q => !clash k1 k2 p q
  | _ => false
theorem isArmies_n {l0 : List (Int × Int)} {k1 k2 : Kd} {ds : List D} (h : ds.length ≠ 2) : isArmies l0 k1 k2 (.tup ds) = false := by
  unfold isArmies
  split
  · rename_i e; cases e; exact absurd rfl h
  · rfl
def noCl (k1 k2 : Kd) (l m : List (Int × Int)) : Bool := l.all fun p => m.all fun q => !clash k1 k2 p q
theorem noCl_snoc {k1 k2 : Kd} {l m : List (Int × Int)} {x : Int × Int} (h : noCl k1 k2 l m = true) (hc : ¬ (m.any fun q => clash k1 k2 x q) = true) : noCl k1 k2 (l ++ [x]) m = true := by
  unfold noCl at *
  rw [List.all_append, h, List.all_cons, List.all_nil, Bool.and_true, Bool.true_and, List.all_eq_true]
  intro q hq
  cases hh : clash k1 k2 x q with
  | false => rfl
  | true => exact absurd (List.any_eq_true.mpr ⟨q, hq, hh⟩) hc
theorem clash_any {k1 k2 : Kd} {l m : List (Int × Int)} {x : Int × Int} (hx : x ∈ l) (hc : (m.any fun q => clash k1 k2 x q) = true) : noCl k1 k2 l m = false := by
  rw [Bool.eq_false_iff]
  intro hh
  obtain ⟨q, hq, hq2⟩ := List.any_eq_true.mp hc
  have := List.all_eq_true.mp (List.all_eq_true.mp hh x hx) q hq
  rw [hq2] at this
  cases this
theorem isArmies_2 {l0 : List (Int × Int)} {k1 k2 : Kd} {l m : List (Int × Int)} : isArmies l0 k1 k2 (.tup [.tup (l.map sq), .tup (m.map sq)]) = (isArmy l0 (.tup (l.map sq)) && isArmy l0 (.tup (m.map sq)) && noCl k1 k2 l m) := by
  show (_ && _ && ((sqL (.tup (l.map sq))).all fun p => (sqL (.tup (m.map sq))).all fun q => !clash k1 k2 p q)) = _
  rw [sqL_sqs, sqL_sqs]
  rfl
theorem emptyF {p : D → Bool} {ds : List D} : (ds.filter fun x => !p x).isEmpty = ds.all p := by
  rw [Bool.eq_iff_iff, List.isEmpty_iff, List.filter_eq_nil_iff, List.all_eq_true]
  simp
@[simp] theorem all_2 (a b : Bool) : allD [.lst [.bl a, .bl b]] = some (.bl (a && b)) := by cases a <;> cases b <;> rfl
theorem k_fits_armies (n : Nat) {R C' : Nat} {f : Int → Int → Bool} (h : BdOk R C') (k1 k2 : Kd) (d : D) (ht : tny 40 d = true) (s : S) : C (n+6) n_fits_armies [bd R C' f, kd k1, kd k2, d] s = .ok (.bl (isArmies (sqs R C' f) k1 k2 d)) s := by
  apply eq_of_wpR
  rw [u_fits_armies]
  have hp := tny_pl d ht
  have e0 : ∀ s, C (n+5) n_is_tuple_of [d, .int 2, .int 2] s = .ok (.bl (tupV 2 2 d)) s := fun s => k_is_tuple_ofV (n+4) d hp 2 2 s
  simp [b_fits_armies, e0]
  cases d with
  | tup ds =>
    by_cases hl : ds.length = 2
    · obtain ⟨x, y, rfl⟩ := tup2 hl
      have ht' := tny_tup.mp ht
      have hx := ht'.2 x (by simp)
      have hy := ht'.2 y (by simp)
      have e1 : ∀ z s, tny 40 z = true → C (n+5) n_fits_placed [bd R C' f, z] s = .ok (.bl (isArmy (sqs R C' f) z)) s := fun z s hz => k_fits_placedV n h z (tny_pl z hz) (tny_okk (by decide) z hz) s
      simp [tupV]
      rw [comp_mapD (g := fun z => .bl (isArmy (sqs R C' f) z)) (by rfl) (by simp) (fun z hz => by simp [e1 z _ (ht'.2 z hz)])]
      simp
      cases hax : isArmy (sqs R C' f) x with
      | false => simp [isArmies, hax]
      | true =>
        cases hay : isArmy (sqs R C' f) y with
        | false => simp [isArmies, hay]
        | true =>
          obtain ⟨l, rfl, hl1, hl2⟩ := isArmy_iff.mp hax
          obtain ⟨m, rfl, hm1, hm2⟩ := isArmy_iff.mp hay
          have hm40 : m.length ≤ 40 := isArmy_len hy rfl
          simp
          refine for_rule (fun (p : List (Int × Int)) (t : S) => noCl k1 k2 p m = true ∧ ∃ a, t = ⟨[.fz (bd R C' f), .fz (kd k1), .fz (kd k2), .fz (.tup [.tup (l.map sq), .tup (m.map sq)]), a, .un, .un], s.sh⟩) ⟨rfl, .un, rfl⟩ ?_ ?_
          · rintro p x q _ hpx ⟨hall, a, rfl⟩
            simp
            rw [comp_map (g := fun q => .bl (clash k1 k2 x q)) (by rfl) (by rw [sz_line]; omega) (fun q hq => ?_)]
            rotate_left
            · simp [k_takes]
              unfold clash
              by_cases hxq : x = q
              · simp [hxq]
              · simp [hxq]
            simp
            by_cases hc : (m.any fun q => clash k1 k2 x q) = true
            · have : isArmies (sqs R C' f) k1 k2 (.tup [.tup (l.map sq), .tup (m.map sq)]) = false := by
                have hx : x ∈ l := by rw [← hpx]; simp
                rw [isArmies_2, clash_any hx hc, Bool.and_false]
              simp only [hc]
              simp [this]
            · have hc2 : (m.any fun q => clash k1 k2 x q) = false := by rw [Bool.eq_false_iff]; exact hc
              simp only [hc2]
              simp
              exact noCl_snoc hall hc
          · rintro t ⟨hall, a, rfl⟩
            simp
            rw [isArmies_2, hall, hax, hay]
            rfl
    · have : ¬ ((2 : Int) ≤ ds.length ∧ (ds.length : Int) ≤ 2) := by omega
      simp [tupV, this, isArmies_n hl]
  | dict _ => cases hp
  | ref _ => cases hp
  | _ => simp [tupV, isArmies]
theorem k_law_are_armies (n : Nat) {R C' : Nat} {f : Int → Int → Bool} (h : BdOk R C') (k1 k2 : Kd) (d : D) (ht : tny 40 d = true) (hdep : d.dep ≤ 40) (s : S) : C (n+4) n__law_are_armies [bd R C' f, kd k1, kd k2, d] s = .ok (.bl (isArmies (sqs R C' f) k1 k2 d)) s := by
  apply eq_of_wpR
  rw [u__law_are_armies]
  have hp := tny_pl d ht
  simp [b__law_are_armies]
  cases d with
  | tup ds =>
    by_cases hl : ds.length = 2
    · obtain ⟨x, y, rfl⟩ := tup2 hl
      have ht' := tny_tup.mp ht
      have hx := ht'.2 x (by simp)
      have hy := ht'.2 y (by simp)
      have hdep : D.depL [x, y] + 1 ≤ 40 := hdep
      have hdp := depL_le.mp (show D.depL [x, y] ≤ 39 by omega)
      have e1 : ∀ z s, z ∈ [x, y] → C (n+3) n__law_is_army [bd R C' f, z] s = .ok (.bl (isArmy (sqs R C' f) z)) s := fun z s hz => k_law_is_army n h z (ht'.2 z hz) (Nat.le_trans (hdp z hz) (by decide)) s
      simp
      rw [comp_filterD (p := fun z => !isArmy (sqs R C' f) z) (g := fun x => x) (by rfl) (by simp) (fun z hz => by simp [e1 z _ hz])]
      have e := eq_nilL (ds := [x, y].filter fun z => !isArmy (sqs R C' f) z) (tnyL_pl (m := 40) _ (tnyL_iff.mpr fun z hz => ht'.2 z (List.mem_filter.mp hz).1)) (depL_le.mpr fun z hz => Nat.le_trans (hdp z (List.mem_filter.mp hz).1) (by decide))
      rw [emptyF] at e
      simp only [List.map_id'] at e ⊢
      have e2 : ([x, y].all fun z => isArmy (sqs R C' f) z) = (isArmy (sqs R C' f) x && isArmy (sqs R C' f) y) := by simp
      rw [e2] at e
      simp [e]
      cases hax : isArmy (sqs R C' f) x with
      | false => simp [isArmies, hax]
      | true =>
        cases hay : isArmy (sqs R C' f) y with
        | false => simp [isArmies, hay]
        | true =>
          obtain ⟨l, rfl, hl1, hl2⟩ := isArmy_iff.mp hax
          obtain ⟨m, rfl, hm1, hm2⟩ := isArmy_iff.mp hay
          have hm40 : m.length ≤ 40 := isArmy_len hy rfl
          simp
          refine for_rule (fun (p : List (Int × Int)) (t : S) => noCl k1 k2 p m = true ∧ ∃ a, t = ⟨[.fz (bd R C' f), .fz (kd k1), .fz (kd k2), .fz (.tup [.tup (l.map sq), .tup (m.map sq)]), a, .un, .un], s.sh⟩) ⟨rfl, .un, rfl⟩ ?_ ?_
          · rintro p x q _ hpx ⟨hall, a, rfl⟩
            simp
            rw [comp_filter (p := fun q => clash k1 k2 x q) (g := sq) (by rfl) (by rw [sz_line]; omega) (fun q hq => ?_)]
            rotate_left
            · simp [k_law_takes]
              unfold clash
              by_cases hxq : x = q
              · simp [hxq]
              · have hqx : ¬ q = x := fun e => hxq e.symm
                simp [hxq, hqx]
            by_cases hc : (m.any fun q => clash k1 k2 x q) = true
            · have hne : ¬ (m.filter fun q => clash k1 k2 x q) = [] := by
                intro e
                obtain ⟨q, hq, hq2⟩ := List.any_eq_true.mp hc
                have := List.filter_eq_nil_iff.mp e q hq
                exact this hq2
              have : isArmies (sqs R C' f) k1 k2 (.tup [.tup (l.map sq), .tup (m.map sq)]) = false := by
                have hx : x ∈ l := by rw [← hpx]; simp
                rw [isArmies_2, clash_any hx hc, Bool.and_false]
              simp [hne, this, -List.filter_eq_nil_iff]
            · have he : (m.filter fun q => clash k1 k2 x q) = [] := List.filter_eq_nil_iff.mpr fun q hq hq2 => hc (List.any_eq_true.mpr ⟨q, hq, hq2⟩)
              simp [he, eq_nil, -List.filter_eq_nil_iff]
              exact noCl_snoc hall hc
          · rintro t ⟨hall, a, rfl⟩
            simp
            rw [isArmies_2, hall, hax, hay]
            rfl
    · have : ¬ (ds.length : Int) = 2 := by omega
      simp [this, isArmies_n hl, hl]
  | dict _ => cases hp
  | ref _ => cases hp
  | _ => simp [isArmies]
end Law

set_option maxRecDepth 100000
namespace Law
open PySem Pv Pw
/-! a bent value -/
def L15 : List D := [.non, .bl true, .bl false, .int 0, .int 1, .int 2, .int 5, .int (-1), .str "", .str "king", .str "tower", .tup [.int 2, .int 1], .tup [.int 0, .int 0], .tup [], .lst []]
theorem l15_mem {m : Nat} (hm : 2 ≤ m) {d : D} (h : d ∈ L15) : tny m d = true ∧ d.dep ≤ 1 := by
  have h2 : tny 2 d = true ∧ d.dep ≤ 1 := by
    simp only [L15, List.mem_cons, List.not_mem_nil, or_false] at h
    rcases h with rfl | rfl | rfl | rfl | rfl | rfl | rfl | rfl | rfl | rfl | rfl | rfl | rfl | rfl | rfl <;> exact ⟨by decide, by decide⟩
  exact ⟨tny_mono hm d h2.1, h2.2⟩
theorem dep_tup {ds : List D} {k : Nat} : (D.tup ds).dep ≤ k + 1 ↔ ∀ d ∈ ds, d.dep ≤ k := by
  rw [show (D.tup ds).dep = D.depL ds + 1 from rfl, ← depL_le]
  omega
theorem dep_lst {ds : List D} {k : Nat} : (D.lst ds).dep ≤ k + 1 ↔ ∀ d ∈ ds, d.dep ≤ k := dep_tup
theorem r_bent (m : Nat) (hm : 2 ≤ m) (hm2 : m ≤ 40) : ∀ (k n : Nat) (d : D), tny m d = true → d.dep ≤ k → k ≤ 20 → ∀ {sh : List D}, Cup sh → ∀ {Q : D → S → Prop} {sl : List Sl}, (∀ d' sh', tny (m + 1) d' = true → d'.dep ≤ k + 1 → Cup sh' → Q d' ⟨sl, sh'⟩) → wpR (C (n+k+3) n__law_bent [.ref 0, d] ⟨sl, sh⟩) Q := by
  intro k
  induction k with
  | zero =>
    intro n d ht hd hk sh hc Q sl hQ
    rw [u__law_bent]
    have e0 : ∀ s, C (n+2) n__law_sort [d] s = .ok (.int (sortOf d)) s := fun s => k_sort (n+1) d (tny_okk (by omega) d ht) s
    have fin : ∀ {ds : List D} {sh' : List D} {sl' : List Sl} {Q' : D → S → Prop}, Cup sh' → ds ≠ [] → ds.length < 100 → (∀ x ∈ ds, ∀ sh', Cup sh' → Q' x ⟨sl', sh'⟩) → wpR (C (n+2) n__law_some [.ref 0, .lst ds] ⟨sl', sh'⟩) Q' := fun hc' h1 h2 h3 => r_some n hc' h1 (by omega) fun x sh'' hx hc'' => h3 x hx sh'' hc''
    cases d with
    | tup ds => have : D.depL ds + 1 ≤ 0 := hd; omega
    | lst ds => have : D.depL ds + 1 ≤ 0 := hd; omega
    | dict _ => simp [tny] at ht
    | ref _ => simp [tny] at ht
    | int v =>
      simp [b__law_bent, e0, sortOf]
      refine fin hc (by simp) (by simp) fun x hx sh' hc' => ?_
      have hx : x ∈ L15 ++ [.int (v + 1), .int (v + 1), .int (v - 1)] := hx
      simp
      rcases List.mem_append.mp hx with hx | hx
      · exact hQ x sh' (l15_mem (by omega) hx).1 (l15_mem hm hx).2 hc'
      · simp only [List.mem_cons, List.not_mem_nil, or_false] at hx
        rcases hx with rfl | rfl | rfl <;> exact hQ _ sh' rfl (Nat.zero_le _) hc'
    | _ =>
      simp [b__law_bent, e0, sortOf]
      refine fin hc (by simp) (by simp) fun x hx sh' hc' => ?_
      simp
      exact hQ x sh' (l15_mem (by omega) hx).1 (l15_mem hm hx).2 hc'
  | succ k ih =>
    intro n d ht hd hk sh hc Q sl hQ
    rw [u__law_bent]
    have e0 : ∀ s, C (n+(k+1)+2) n__law_sort [d] s = .ok (.int (sortOf d)) s := fun s => k_sort (n+(k+1)+1) d (tny_okk (by omega) d ht) s
    have fin : ∀ {ds : List D} {sh' : List D} {sl' : List Sl} {Q' : D → S → Prop}, Cup sh' → ds ≠ [] → ds.length < 100 → (∀ x ∈ ds, ∀ sh', Cup sh' → Q' x ⟨sl', sh'⟩) → wpR (C (n+(k+1)+2) n__law_some [.ref 0, .lst ds] ⟨sl', sh'⟩) Q' := fun hc' h1 h2 h3 => r_some (n+(k+1)) hc' h1 (by omega) fun x sh'' hx hc'' => h3 x hx sh'' hc''
    cases d with
    | tup ds =>
      have ht' := tny_tup.mp ht
      have hdp := dep_tup.mp hd
      have en := eq_nilT (tnyL_pl (m := m) ds (tnyL_iff.mpr ht'.2)) (depL_le.mpr fun z hz => Nat.le_trans (hdp z hz) (by omega))
      simp [b__law_bent, e0, sortOf, en]
      by_cases hne : ds = []
      · subst hne
        simp
        refine fin hc (by simp) (by simp) fun x hx sh' hc' => ?_
        simp
        exact hQ x sh' (l15_mem (by omega) hx).1 (Nat.le_trans (l15_mem hm hx).2 (by omega)) hc'
      · have hpos : 0 < ds.length := List.length_pos_iff.mpr hne
        simp [hne]
        refine r_roll (n+(k+1)+1) hc _ (by omega) (by omega) fun z sh1 g0 g1 hc1 => ?_
        simp
        by_cases hz : z = 0
        · simp [hz, e0, sortOf]
          refine fin hc1 (by simp) (by simp) fun x hx sh' hc' => ?_
          simp
          exact hQ x sh' (l15_mem (by omega) hx).1 (Nat.le_trans (l15_mem hm hx).2 (by omega)) hc'
        · simp [hz]
          refine r_roll (n+(k+1)+1) hc1 _ (by omega) (by omega) fun i sh2 g2 g3 hc2 => ?_
          simp
          refine r_roll (n+(k+1)+1) hc2 _ (by omega) (by omega) fun w sh3 g4 g5 hc3 => ?_
          obtain ⟨j, rfl⟩ : ∃ j : Nat, i = j := ⟨i.toNat, by omega⟩
          have hj : j < ds.length := by omega
          have h1 : (0 : Int) ≤ j + 1 := by omega
          have h2 : ((j : Int) + 1).toNat = j + 1 := by omega
          have c1 : cutD ds none (some (j : Int)) = ds.take j := by rw [cut_take _ _ g2]; rfl
          have c2 : cutD ds (some ((j : Int) + 1)) none = ds.drop (j + 1) := by rw [cut_drop _ _ h1, h2]
          have c3 : cutD ds none (some ((j : Int) + 1)) = ds.take (j + 1) := by rw [cut_take _ _ h1, h2]
          have c4 : cutD ds (some (j : Int)) none = ds.drop j := by rw [cut_drop _ _ g2]; rfl
          have l1 : ∀ i, (ds.take i).length ≤ ds.length := fun i => by rw [List.length_take]; omega
          have l2 : ∀ i, (ds.drop i).length ≤ ds.length := fun i => by rw [List.length_drop]; omega
          have b1 : binD .Add (.tup (ds.take j)) (.tup (ds.drop (j + 1))) = some (.tup (ds.take j ++ ds.drop (j + 1))) := b_addt _ _ (by have := l1 j; have := l2 (j+1); rw [sz_line]; omega)
          have b2 : binD .Add (.tup (ds.take (j + 1))) (.tup (ds.drop j)) = some (.tup (ds.take (j + 1) ++ ds.drop j)) := b_addt _ _ (by have := l1 (j+1); have := l2 j; rw [sz_line]; omega)
          have mm : ∀ e ∈ ds, tny (m + 1) e = true ∧ e.dep ≤ k + 1 := fun e he => ⟨tny_mono (by omega) e (ht'.2 e he), Nat.le_trans (hdp e he) (by omega)⟩
          have close : ∀ es : List D, es.length ≤ m + 1 → (∀ e ∈ es, tny (m + 1) e = true ∧ e.dep ≤ k + 1) → tny (m + 1) (.tup es) = true ∧ (D.tup es).dep ≤ k + 1 + 1 := fun es h1 h2 => ⟨tny_tup.mpr ⟨h1, fun e he => (h2 e he).1⟩, dep_tup.mpr fun e he => (h2 e he).2⟩
          have hat : atD ds (j : Int) = some (ds[j]'hj) := by
            rw [atD_pos g2 (by omega)]; exact List.getElem?_eq_getElem _
          simp [c1, c2, c3, c4, b1, b2, hat]
          split
          · have := close (ds.take j ++ ds.drop (j + 1)) (by rw [List.length_append, List.length_take, List.length_drop]; omega) (fun e he => mm e (by
              rcases List.mem_append.mp he with he | he
              · exact List.mem_of_mem_take he
              · exact List.mem_of_mem_drop he))
            exact hQ _ _ this.1 this.2 hc3
          · split
            · have := close (ds.take (j + 1) ++ ds.drop j) (by rw [List.length_append, List.length_take, List.length_drop]; omega) (fun e he => mm e (by
                rcases List.mem_append.mp he with he | he
                · exact List.mem_of_mem_take he
                · exact List.mem_of_mem_drop he))
              exact hQ _ _ this.1 this.2 hc3
            · split
              · have := close ds (by omega) mm
                exact hQ _ _ this.1 this.2 hc3
              · split
                · have := close ds.reverse (by rw [List.length_reverse]; omega) (fun e he => mm e (List.mem_reverse.mp he))
                  exact hQ _ _ this.1 this.2 hc3
                · have hin : ds[j] ∈ ds := List.getElem_mem hj
                  have e9 : n + (k + 1) + 2 = n + k + 3 := by omega
                  rw [e9]
                  refine ih n (ds[j]) (ht'.2 _ hin) (hdp _ hin) (by omega) hc3 fun x sh4 hx1 hx2 hc4 => ?_
                  have l3 : (ds.take j ++ [x]).length ≤ ds.length := by rw [List.length_append, List.length_take]; simp; omega
                  have b3 : binD .Add (.tup (ds.take j)) (.tup [x]) = some (.tup (ds.take j ++ [x])) := b_addt _ _ (by have := l1 j; rw [sz_line]; simp; omega)
                  have b4 : binD .Add (.tup (ds.take j ++ [x])) (.tup (ds.drop (j + 1))) = some (.tup (ds.take j ++ [x] ++ ds.drop (j + 1))) := b_addt _ _ (by have := l2 (j+1); rw [sz_line]; omega)
                  simp only [List.append_assoc] at b4
                  simp [c1, c2, b3, b4]
                  have := close (ds.take j ++ x :: ds.drop (j + 1)) (by rw [List.length_append, List.length_take, List.length_cons, List.length_drop]; omega) (fun e he => by
                    rcases List.mem_append.mp he with he | he
                    · exact mm e (List.mem_of_mem_take he)
                    · rcases List.mem_cons.mp he with rfl | he
                      · exact ⟨hx1, hx2⟩
                      · exact mm e (List.mem_of_mem_drop he))
                  exact hQ _ _ this.1 this.2 hc4
    | lst ds =>
      simp [b__law_bent, e0, sortOf]
      refine fin hc (by simp) (by simp) fun x hx sh' hc' => ?_
      simp
      exact hQ x sh' (l15_mem (by omega) hx).1 (Nat.le_trans (l15_mem hm hx).2 (by omega)) hc'
    | dict _ => simp [tny] at ht
    | ref _ => simp [tny] at ht
    | int v =>
      simp [b__law_bent, e0, sortOf]
      refine fin hc (by simp) (by simp) fun x hx sh' hc' => ?_
      have hx : x ∈ L15 ++ [.int (v + 1), .int (v + 1), .int (v - 1)] := hx
      simp
      rcases List.mem_append.mp hx with hx | hx
      · exact hQ x sh' (l15_mem (by omega) hx).1 (Nat.le_trans (l15_mem hm hx).2 (by omega)) hc'
      · simp only [List.mem_cons, List.not_mem_nil, or_false] at hx
        rcases hx with rfl | rfl | rfl <;> exact hQ _ sh' rfl (Nat.zero_le _) hc'
    | _ =>
      simp [b__law_bent, e0, sortOf]
      refine fin hc (by simp) (by simp) fun x hx sh' hc' => ?_
      simp
      exact hQ x sh' (l15_mem (by omega) hx).1 (Nat.le_trans (l15_mem hm hx).2 (by omega)) hc'
end Law

set_option maxRecDepth 100000
namespace Law
open PySem Pv Pw
/-! dicts with squares for keys -/
theorem in_sqs (q : Int × Int) (m : List (Int × Int)) : inD (sq q) (.lst (m.map sq)) = some (decide (q ∈ m)) := by
  show inL (sq q) (m.map sq) = _
  unfold inL
  have h := sq_shpL m
  rw [sq_shp, h.1]
  simp only [Bool.and_true, Bool.true_and]
  rw [if_pos (by rw [decide_eq_true_iff]; omega)]
  congr 1
  rw [Bool.eq_iff_iff, List.any_eq_true, decide_eq_true_iff]
  constructor
  · rintro ⟨x, hx, hx2⟩
    obtain ⟨p, hp, rfl⟩ := List.mem_map.mp hx
    rw [sq_eqv] at hx2
    exact of_decide_eq_true hx2 ▸ hp
  · intro hq
    exact ⟨sq q, List.mem_map_of_mem hq, by rw [sq_eqv]; simp⟩
theorem pairs_sqs (v : Int × Int → D) : ∀ l : List (Int × Int), pairsOf (l.map fun p => .tup [sq p, v p]) = some (l.map fun p => (sq p, v p))
  | [] => rfl
  | p :: l => by
    show (pairsOf (l.map fun p => .tup [sq p, v p])).map ((sq p, v p) :: ·) = _
    rw [pairs_sqs v l]
    rfl
theorem fold_sqs (v : Int × Int → D) : ∀ (l acc : List (Int × Int)), (acc ++ l).Nodup → (l.map fun p => (sq p, v p)).foldl (fun acc p => dPut acc p.1 p.2) (acc.map fun p => (sq p, v p)) = (acc ++ l).map fun p => (sq p, v p)
  | [], acc, h => by simp
  | p :: l, acc, h => by
    have hp : p ∉ acc := by
      intro hp
      rw [List.nodup_append] at h
      exact h.2.2 p hp p (by simp) rfl
    have e : dPut (acc.map fun p => (sq p, v p)) (sq p) (v p) = (acc ++ [p]).map fun p => (sq p, v p) := by
      unfold dPut
      rw [if_neg]
      · simp
      · intro hh
        obtain ⟨x, hx, hx2⟩ := List.any_eq_true.mp hh
        obtain ⟨q, hq, rfl⟩ := List.mem_map.mp hx
        rw [sq_eqv] at hx2
        exact hp (of_decide_eq_true hx2 ▸ hq)
    rw [List.map_cons, List.foldl_cons]
    show (l.map fun p => (sq p, v p)).foldl _ (dPut (acc.map fun p => (sq p, v p)) (sq p) (v p)) = _
    rw [e, fold_sqs v l (acc ++ [p]) (by simpa using h)]
    simp
theorem make_sqs (v : Int × Int → D) {l : List (Int × Int)} (h : l.Nodup) (hl : l.length ≤ sizeLine) : dMake (.lst (l.map fun p => .tup [sq p, v p])) = some (dct true (l.map fun p => (sq p, v p))) := by
  show (pairsOf (l.map fun p => .tup [sq p, v p])).bind _ = _
  rw [pairs_sqs]
  show (if _ then _ else _) = _
  rw [if_pos]
  · have := fold_sqs v l [] (by simpa using h)
    rw [show ([] : List (Int × Int)).map (fun p => (sq p, v p)) = [] from rfl] at this
    rw [this]
    rfl
  · rw [Bool.and_eq_true, decide_eq_true_iff, List.all_eq_true]
    refine ⟨fun x hx => ?_, by simpa using hl⟩
    obtain ⟨q, hq, rfl⟩ := List.mem_map.mp hx
    rfl
theorem look_sqs (v : Int × Int → D) {p : Int × Int} : ∀ {l : List (Int × Int)}, p ∈ l → dLook (l.map fun p => (sq p, v p)) (sq p) = some (v p)
  | [], h => by cases h
  | q :: l, h => by
    unfold dLook
    rw [List.map_cons, List.find?_cons]
    show Option.map _ (match (sq q).eqv (sq p) with | true => _ | false => _) = _
    rw [sq_eqv]
    by_cases e : q = p
    · subst e; simp
    · rcases List.mem_cons.mp h with h | h
      · exact absurd h.symm e
      · rw [decide_eq_false e]
        exact look_sqs v h
/-! the search for armies, in plain -/
def foes (k1 k2 : Kd) (l : List (Int × Int)) (A : List (Int × Int)) : List (Int × Int) := l.filter fun q => A.all fun p => !clash k1 k2 p q
theorem foes_snoc (k1 k2 : Kd) (l A : List (Int × Int)) (p : Int × Int) : foes k1 k2 l (A ++ [p]) = (foes k1 k2 l A).filter fun q => !clash k1 k2 p q := by
  unfold foes
  rw [List.filter_filter]
  congr 1
  funext q
  rw [List.all_append, List.all_cons, List.all_nil, Bool.and_true, Bool.and_comm]
theorem foes_app (k1 k2 : Kd) (l A B : List (Int × Int)) : (foes k1 k2 l (A ++ B)).length ≤ (foes k1 k2 l A).length := by
  have : foes k1 k2 l (A ++ B) = (foes k1 k2 l A).filter fun q => B.all fun p => !clash k1 k2 p q := by
    unfold foes
    rw [List.filter_filter]
    congr 1
    funext q
    rw [List.all_append, Bool.and_comm]
  rw [this]
  exact List.length_filter_le _ _
def val (k1 k2 : Kd) (l A : List (Int × Int)) : Nat := min A.length (foes k1 k2 l A).length
abbrev Item := List (Int × Int) × List (Int × Int)
def wt (it : Item) : Nat := 2 ^ (it.2.length + 1) - 1
def cov (it : Item) (X : List (Int × Int)) : Prop := ∃ Y, Y.Sublist it.2 ∧ X = it.1 ++ Y
structure Inv (k1 k2 : Kd) (l : List (Int × Int)) (st : List Item) (b0 b1 : List (Int × Int)) : Prop where
  s0 : b0.Sublist l
  s1 : b1.Sublist (foes k1 k2 l b0)
  len : b0.length = b1.length
  sub : ∀ it ∈ st, (it.1 ++ it.2).Sublist l
  cov : ∀ X, X.Sublist l → val k1 k2 l X ≤ b0.length ∨ ∃ it ∈ st, cov it X
theorem Inv.start (k1 k2 : Kd) (l : List (Int × Int)) : Inv k1 k2 l [([], l)] [] [] := by
  refine ⟨List.nil_sublist _, List.nil_sublist _, rfl, fun it h => ?_, fun X hX => .inr ⟨([], l), by simp, X, hX, rfl⟩⟩
  rw [List.mem_singleton.mp h]
  exact List.Sublist.refl _
theorem mem_foes {k1 k2 : Kd} {l A : List (Int × Int)} {q : Int × Int} : q ∈ foes k1 k2 l A ↔ q ∈ l ∧ ∀ p ∈ A, clash k1 k2 p q = false := by
  unfold foes
  rw [List.mem_filter, List.all_eq_true]
  simp
theorem foes_sub {k1 k2 : Kd} {l A B : List (Int × Int)} (h : ∀ p ∈ B, p ∈ A) : (foes k1 k2 l A).Sublist (foes k1 k2 l B) := by
  have : foes k1 k2 l A = (foes k1 k2 l B).filter fun q => A.all fun p => !clash k1 k2 p q := by
    unfold foes
    rw [List.filter_filter]
    refine List.filter_congr fun q _ => ?_
    rw [Bool.eq_iff_iff, Bool.and_eq_true, List.all_eq_true, List.all_eq_true]
    exact ⟨fun h' => ⟨h', fun p hp => h' p (h p hp)⟩, fun h' => h'.1⟩
  rw [this]
  exact List.filter_sublist
/-- a better pair -/
theorem Inv.best {k1 k2 : Kd} {l : List (Int × Int)} {st : List Item} {A L b0 b1 : List (Int × Int)} (h : Inv k1 k2 l (st ++ [(A, L)]) b0 b1) (hv : b0.length < val k1 k2 l A) : Inv k1 k2 l (st ++ [(A, L)]) (A.take (val k1 k2 l A)) ((foes k1 k2 l A).take (val k1 k2 l A)) := by
  have hA : (A ++ L).Sublist l := h.sub (A, L) (by simp)
  have hl : (A.take (val k1 k2 l A)).length = val k1 k2 l A := by
    rw [List.length_take]; unfold val; omega
  refine ⟨((List.take_sublist _ _).trans (List.sublist_append_left A L)).trans hA, ?_, ?_, h.sub, fun X hX => ?_⟩
  · exact (List.take_sublist _ _).trans (foes_sub fun p hp => List.mem_of_mem_take hp)
  · rw [hl, List.length_take]; unfold val; omega
  · rcases h.cov X hX with h | h
    · exact .inl (by omega)
    · exact .inr h
/-- an item that is done -/
theorem Inv.drop {k1 k2 : Kd} {l : List (Int × Int)} {st : List Item} {A L b0 b1 : List (Int × Int)} (h : Inv k1 k2 l (st ++ [(A, L)]) b0 b1) (hv : val k1 k2 l A ≤ b0.length) (hd : L = [] ∨ min (A.length + L.length) (foes k1 k2 l A).length ≤ b0.length) : Inv k1 k2 l st b0 b1 := by
  refine ⟨h.s0, h.s1, h.len, fun it hi => h.sub it (by simp [hi]), fun X hX => ?_⟩
  rcases h.cov X hX with h | ⟨it, hi, hc⟩
  · exact .inl h
  · rcases List.mem_append.mp hi with hi | hi
    · exact .inr ⟨it, hi, hc⟩
    · rw [List.mem_singleton.mp hi] at hc
      obtain ⟨Y, hY, rfl⟩ := hc
      left
      have hY : Y.Sublist L := hY
      show val k1 k2 l (A ++ Y) ≤ _
      rcases hd with rfl | hd
      · rw [List.eq_nil_of_sublist_nil hY, List.append_nil]
        exact hv
      · have h1 := foes_app k1 k2 l A Y
        have h2 := hY.length_le
        unfold val
        rw [List.length_append]
        omega
theorem Inv.push {k1 k2 : Kd} {l : List (Int × Int)} {st : List Item} {A L b0 b1 : List (Int × Int)} {p : Int × Int} (h : Inv k1 k2 l (st ++ [(A, p :: L)]) b0 b1) : Inv k1 k2 l (st ++ [(A, L)] ++ [(A ++ [p], L)]) b0 b1 := by
  have hA : (A ++ p :: L).Sublist l := h.sub (A, p :: L) (by simp)
  refine ⟨h.s0, h.s1, h.len, fun it hi => ?_, fun X hX => ?_⟩
  · rcases List.mem_append.mp hi with hi | hi
    · rcases List.mem_append.mp hi with hi | hi
      · exact h.sub it (by simp [hi])
      · rw [List.mem_singleton.mp hi]
        exact ((List.Sublist.refl A).append (List.sublist_cons_self p L)).trans hA
    · rw [List.mem_singleton.mp hi]
      show (A ++ [p] ++ L).Sublist l
      rw [List.append_assoc]
      exact hA
  · rcases h.cov X hX with h | ⟨it, hi, hc⟩
    · exact .inl h
    · right
      rcases List.mem_append.mp hi with hi | hi
      · exact ⟨it, by simp [hi], hc⟩
      · rw [List.mem_singleton.mp hi] at hc
        obtain ⟨Y, hY, rfl⟩ := hc
        have hY : Y.Sublist (p :: L) := hY
        cases hY with
        | cons _ hY => exact ⟨(A, L), by simp, Y, hY, rfl⟩
        | cons_cons _ hY => exact ⟨(A ++ [p], L), by simp, _, hY, by simp⟩
/-- the most there is -/
def IsMost (k1 k2 : Kd) (l : List (Int × Int)) (M : Nat) : Prop := (∀ X, X.Sublist l → val k1 k2 l X ≤ M) ∧ ∃ X, X.Sublist l ∧ M ≤ val k1 k2 l X
theorem IsMost.eq {k1 k2 : Kd} {l : List (Int × Int)} {M N : Nat} (h : IsMost k1 k2 l M) (h' : IsMost k1 k2 l N) : M = N := by
  obtain ⟨X, hX, hX2⟩ := h.2
  obtain ⟨Y, hY, hY2⟩ := h'.2
  have := h'.1 X hX
  have := h.1 Y hY
  omega
theorem Inv.most {k1 k2 : Kd} {l b0 b1 : List (Int × Int)} (h : Inv k1 k2 l [] b0 b1) : IsMost k1 k2 l b0.length := by
  refine ⟨fun X hX => ?_, b0, h.s0, ?_⟩
  · rcases h.cov X hX with h | ⟨it, hi, _⟩
    · exact h
    · cases hi
  · have h1 := h.s1.length_le
    have h2 := h.len
    unfold val
    omega
theorem tak_symm (k : Kd) (p q : Int × Int) : tak k p q = tak k q p := by
  have h1 : iabs (p.1 - q.1) = iabs (q.1 - p.1) := by unfold iabs; split <;> split <;> omega
  have h2 : iabs (p.2 - q.2) = iabs (q.2 - p.2) := by unfold iabs; split <;> split <;> omega
  unfold tak
  rw [h1, h2]
theorem clash_symm (k1 k2 : Kd) (p q : Int × Int) : clash k1 k2 p q = clash k2 k1 q p := by
  unfold clash
  rw [tak_symm k1 p q, tak_symm k2 q p, Bool.or_comm (tak k1 q p)]
  congr 1
  rw [Bool.eq_iff_iff, decide_eq_true_iff, decide_eq_true_iff]
  exact eq_comm
/-- the two armies may change places -/
theorem IsMost.symm {k1 k2 : Kd} {l : List (Int × Int)} {M : Nat} (h : IsMost k1 k2 l M) : IsMost k2 k1 l M := by
  have key : ∀ (k1 k2 : Kd) (X : List (Int × Int)), X.Sublist l → ∃ Y, Y.Sublist l ∧ val k1 k2 l X ≤ val k2 k1 l Y := fun k1 k2 X hX => by
    refine ⟨foes k1 k2 l X, List.filter_sublist, ?_⟩
    have : X.length ≤ (foes k2 k1 l (foes k1 k2 l X)).length := by
      have hs : X = X.filter fun q => (foes k1 k2 l X).all fun p => !clash k2 k1 p q := by
        rw [eq_comm, List.filter_eq_self]
        intro q hq
        rw [List.all_eq_true]
        intro p hp
        rw [← clash_symm, (mem_foes.mp hp).2 q hq]
        rfl
      have := (hX.filter fun q => (foes k1 k2 l X).all fun p => !clash k2 k1 p q).length_le
      rw [← hs] at this
      exact this
    unfold val
    omega
  obtain ⟨h1, X, hX, hX2⟩ := h
  refine ⟨fun X hX => ?_, ?_⟩
  · obtain ⟨Y, hY, hle⟩ := key k2 k1 X hX
    exact Nat.le_trans hle (h1 Y hY)
  · obtain ⟨Y, hY, hle⟩ := key k1 k2 X hX
    exact ⟨Y, hY, Nat.le_trans hX2 hle⟩
end Law

set_option maxRecDepth 100000
namespace Law
open PySem Pv Pw
/-! the search for armies, walked -/
theorem k_barred_by (n : Nat) (k1 k2 : Kd) (l : List (Int × Int)) (hl : l.length ≤ 16777216) (p : Int × Int) (s : S) : C (n+2) n_barred_by [.tup (l.map sq), kd k1, kd k2, sq p] s = .ok (.lst ((l.filter fun q => clash k1 k2 p q).map sq)) s := by
  apply eq_of_wpR
  rw [u_barred_by]
  simp [b_barred_by]
  rw [comp_filter (p := fun q => clash k1 k2 p q) (g := sq) (by rfl) hl (fun q hq => ?_)]
  · simp
  · simp [k_takes]
    unfold clash
    by_cases hxq : p = q
    · simp [hxq]
    · have hqx : ¬ q = p := fun e => hxq e.symm
      simp [hxq, hqx, k_takes]
def enc (k1 k2 : Kd) (l : List (Int × Int)) (it : Item) : D := .tup [.tup (it.1.map sq), .tup (it.2.map sq), .tup ((foes k1 k2 l it.1).map sq)]
def best (b0 b1 : List (Int × Int)) : D := .tup [.tup (b0.map sq), .tup (b1.map sq)]
theorem enc_plL (k1 k2 : Kd) (l : List (Int × Int)) : ∀ st : List Item, D.plL (st.map (enc k1 k2 l)) = true ∧ D.depL (st.map (enc k1 k2 l)) ≤ 3
  | [] => ⟨rfl, Nat.zero_le _⟩
  | it :: st => by
    obtain ⟨h1, h2⟩ := enc_plL k1 k2 l st
    have g1 := sq_shpL it.1
    have g2 := sq_shpL it.2
    have g3 := sq_shpL (foes k1 k2 l it.1)
    constructor
    · show (D.pl (enc k1 k2 l it) && D.plL (st.map (enc k1 k2 l))) = true
      rw [h1, Bool.and_true]
      show (D.plL _ && (D.plL _ && (D.plL _ && true))) = true
      rw [g1.1, g2.1, g3.1]; rfl
    · show max (max (D.depL _ + 1) (max (D.depL _ + 1) (max (D.depL _ + 1) 0)) + 1) (D.depL (st.map (enc k1 k2 l))) ≤ 3
      omega
theorem st_nil (k1 k2 : Kd) (l : List (Int × Int)) (st : List Item) : eqD (.lst (st.map (enc k1 k2 l))) (.lst []) = some st.isEmpty := by
  obtain ⟨h1, h2⟩ := enc_plL k1 k2 l st
  rw [eq_nilL h1 (by omega), List.isEmpty_map]
theorem sqs_nilT (l : List (Int × Int)) : eqD (.tup (l.map sq)) (.tup []) = some (decide (l = [])) := eqD_sqs l []
def wts (st : List Item) : Nat := (st.map wt).sum
theorem wts_snoc (st : List Item) (it : Item) : wts (st ++ [it]) = wts st + wt it := by
  unfold wts
  rw [List.map_append, List.sum_append]
  simp
theorem get_snoc {α : Type} (f : α → D) (st : List α) (x : α) : ((st ++ [x]).map f)[((st ++ [x]).map f).length - 1]? = some (f x) := by
  rw [List.map_append, List.length_append]
  simp
theorem drop_snoc {α : Type} (f : α → D) (st : List α) (x : α) : ((st ++ [x]).map f).dropLast = st.map f := by
  rw [List.map_append]
  simp
theorem min_if (a b : Nat) : (if (b : Int) < (a : Int) then (b : Int) else a) = ((min a b : Nat) : Int) := by
  split <;> omega
def barsD (k1 k2 : Kd) (l : List (Int × Int)) : D := dct true (l.map fun p => (sq p, .lst ((l.filter fun q => clash k1 k2 p q).map sq)))
theorem wt_pos (it : Item) : 1 ≤ wt it := by
  show 1 ≤ 2 ^ (it.2.length + 1) - 1
  have := Nat.pow_le_pow_right (n := 2) (by decide) (show 1 ≤ it.2.length + 1 by omega)
  omega
theorem len_wts : ∀ st : List Item, st.length ≤ wts st
  | [] => Nat.zero_le _
  | it :: st => by
    have h1 := len_wts st
    have h2 := wt_pos it
    have : wts (it :: st) = wt it + wts st := by unfold wts; rw [List.map_cons, List.sum_cons]
    rw [this, List.length_cons]
    omega
theorem r_armies_in (n : Nat) (k1 k2 : Kd) (l : List (Int × Int)) (hl : l.length ≤ 16) (hn : l.Nodup) (s : S) {Q : D → S → Prop} (hQ : ∀ b0 b1, Inv k1 k2 l [] b0 b1 → Q (best b0 b1) s) : wpR (C (n+3) n_armies_in [.tup (l.map sq), kd k1, kd k2] s) Q := by
  rw [u_armies_in]
  have hl2 : l.length ≤ 16777216 := by omega
  simp [b_armies_in]
  rw [comp_map (g := fun p => .tup [sq p, .lst ((l.filter fun q => clash k1 k2 p q).map sq)]) (by rfl) (by rw [sz_line]; omega) (fun p hp => by simp [k_barred_by, hl2])]
  simp [make_sqs _ hn (show l.length ≤ sizeLine by rw [sz_line]; omega)]
  refine whl_rule (fun k t => ∃ (st : List Item) (b0 b1 : List (Int × Int)) (a6 a7 a8 a9 : Sl), (k ≤ 200000 ∧ wts st ≤ k) ∧ Inv k1 k2 l st b0 b1 ∧ t = ⟨[.fz (.tup (l.map sq)), .fz (kd k1), .fz (kd k2), .ow (barsD k1 k2 l), .fz (best b0 b1), .ow (.lst (st.map (enc k1 k2 l))), a6, a7, a8, a9, .un, .un], s.sh⟩) ?_ WH 200000 _ (by decide) ⟨[([], l)], [], [], .un, .un, .un, .un, ?_, Inv.start k1 k2 l, ?_⟩
  · rintro k t ⟨st, b0, b1, a6, a7, a8, a9, ⟨hk0, hk⟩, hi, rfl⟩
    refine wpR_mono (Q := fun r s' => r = (!st.isEmpty) ∧ s' = ⟨[.fz (.tup (l.map sq)), .fz (kd k1), .fz (kd k2), .ow (barsD k1 k2 l), .fz (best b0 b1), .ow (.lst (st.map (enc k1 k2 l))), a6, a7, a8, a9, .un, .un], s.sh⟩) (by simp [st_nil]) ?_
    rintro _ _ ⟨rfl, rfl⟩
    rcases List.eq_nil_or_concat st with rfl | ⟨st', it, rfl⟩
    · rw [if_neg (by simp)]
      simp
      exact hQ b0 b1 hi
    · rw [if_pos (by simp)]
      obtain ⟨A, L⟩ := it
      rw [List.concat_eq_append] at hk hi ⊢
      rw [wts_snoc] at hk
      have hw1 := wt_pos (A, L)
      refine ⟨k - 1, by omega, fun Q' hq => ?_⟩
      have hF : (foes k1 k2 l A).length ≤ 16 := Nat.le_trans (List.length_filter_le _ _) hl
      have hA : (A ++ L).Sublist l := hi.sub (A, L) (by simp)
      have hAL := hA.length_le
      rw [List.length_append] at hAL
      have e1 : enc k1 k2 l (A, L) = .tup [.tup (A.map sq), .tup (L.map sq), .tup ((foes k1 k2 l A).map sq)] := rfl
      rw [wp_cons]
      refine wpR_mono (Q := fun r s' => r = .nx ∧ s' = ⟨[.fz (.tup (l.map sq)), .fz (kd k1), .fz (kd k2), .ow (barsD k1 k2 l), .fz (best b0 b1), .ow (.lst (st'.map (enc k1 k2 l))), .fz (.tup (A.map sq)), .fz (.tup (L.map sq)), .fz (.tup ((foes k1 k2 l A).map sq)), a9, .un, .un], s.sh⟩) (by simp [e1]) ?_
      rintro _ _ ⟨rfl, rfl⟩
      rw [seqQ_nx, wp_cons]
      have hv : (if (foes k1 k2 l A).length < A.length then ((foes k1 k2 l A).length : Int) else (A.length : Int)) = ((val k1 k2 l A : Nat) : Int) := by
        unfold val; split <;> omega
      have hv2 : (if ((foes k1 k2 l A).length : Int) < (A.length : Int) + (L.length : Int) then ((foes k1 k2 l A).length : Int) else (A.length : Int) + (L.length : Int)) = ((min (A.length + L.length) (foes k1 k2 l A).length : Nat) : Int) := by
        split <;> omega
      refine wpR_mono (Q := fun r s' => r = .nx ∧ ∃ c0 c1 a9, Inv k1 k2 l (st' ++ [(A, L)]) c0 c1 ∧ val k1 k2 l A ≤ c0.length ∧ s' = ⟨[.fz (.tup (l.map sq)), .fz (kd k1), .fz (kd k2), .ow (barsD k1 k2 l), .fz (best c0 c1), .ow (.lst (st'.map (enc k1 k2 l))), .fz (.tup (A.map sq)), .fz (.tup (L.map sq)), .fz (.tup ((foes k1 k2 l A).map sq)), a9, .un, .un], s.sh⟩) ?_ ?_
      · have e2 : best b0 b1 = .tup [.tup (b0.map sq), .tup (b1.map sq)] := rfl
        have c1 : cutD (A.map sq) none (some ((val k1 k2 l A : Nat) : Int)) = (A.take (val k1 k2 l A)).map sq := by
          rw [cut_take _ _ (by omega), List.map_take]; rfl
        have c2 : cutD ((foes k1 k2 l A).map sq) none (some ((val k1 k2 l A : Nat) : Int)) = ((foes k1 k2 l A).take (val k1 k2 l A)).map sq := by
          rw [cut_take _ _ (by omega), List.map_take]; rfl
        simp [e2, hv, c1, c2, -List.map_take]
        split
        · rename_i hb
          have hb : b0.length < val k1 k2 l A := hb
          refine ⟨_, _, hi.best hb, ?_, rfl⟩
          rw [List.length_take]; unfold val; omega
        · rename_i hb
          have hb : ¬ b0.length < val k1 k2 l A := hb
          exact ⟨b0, b1, hi, by omega, rfl⟩
      · rintro _ _ ⟨rfl, c0, c1, a9', hi', hge, rfl⟩
        rw [seqQ_nx, wp_cons]
        have e2 : best c0 c1 = .tup [.tup (c0.map sq), .tup (c1.map sq)] := rfl
        have hadd : binD .Add (.tup (A.map sq)) (.tup (cutD (L.map sq) none (some 1))) = some (.tup ((A ++ L.take 1).map sq)) := by
          rw [cut_take _ _ (by decide), b_addt _ _ (by rw [sz_line, List.length_map, List.length_take, List.length_map]; omega), List.map_append, List.map_take]
          rfl
        have hlen : st'.length + 2 < 16777216 := by
          have := len_wts st'
          omega
        have hlen1 : st'.length < 16777216 := by omega
        have hlen2 : st'.length + 1 < 16777216 := by omega
        simp [e2, sqs_nilT, hv2, hadd, hlen1]
        split
        · rename_i hc
          obtain ⟨hne, hlt⟩ := hc
          obtain ⟨p, L', rfl⟩ := List.exists_cons_of_ne_nil hne
          have hp : p ∈ l := hA.subset (by simp)
          have hbars : idxD s.sh (barsD k1 k2 l) (sq p) = some (.lst ((l.filter fun q => clash k1 k2 p q).map sq)) := by
            unfold barsD
            rw [idx_dic]
            rw [if_pos (show keyFit true (sq p) = true from rfl)]
            exact look_sqs (fun p => .lst ((l.filter fun q => clash k1 k2 p q).map sq)) hp
          simp [hlen2]
          rw [comp_filter (p := fun q => !clash k1 k2 p q) (g := sq) (by rfl) (by rw [sz_line]; omega) (fun q hq => ?_)]
          rotate_left
          · have hql : q ∈ l := (mem_foes.mp hq).1
            simp [hbars, in_sqs, hql]
          rw [← foes_snoc]
          simp [hlen2]
          refine hq _ ⟨st' ++ [(A, L')] ++ [(A ++ [p], L')], c0, c1, .fz (.tup (A.map sq)), .fz (.tup ((p :: L').map sq)), .fz (.tup ((foes k1 k2 l A).map sq)), a9', ⟨by omega, ?_⟩, hi'.push, ?_⟩
          · rw [wts_snoc, wts_snoc]
            have h1 : wt (A, p :: L') = 2 ^ (L'.length + 2) - 1 := rfl
            have h2 : wt (A, L') = 2 ^ (L'.length + 1) - 1 := rfl
            have h3 : wt (A ++ [p], L') = 2 ^ (L'.length + 1) - 1 := rfl
            have h4 : 2 ^ (L'.length + 2) = 2 * 2 ^ (L'.length + 1) := by rw [Nat.pow_succ 2 (L'.length + 1)]; omega
            have h5 := Nat.pow_le_pow_right (n := 2) (by decide) (show 1 ≤ L'.length + 1 by omega)
            omega
          · simp [enc, best]
        · rename_i hc
          refine hq _ ⟨st', c0, c1, _, _, _, _, ⟨by omega, ?_⟩, hi'.drop hge ?_, rfl⟩
          · have := wt_pos (A, L); omega
          · by_cases hL : L = []
            · exact .inl hL
            · right
              have : ¬ (c0.length < min (A.length + L.length) (foes k1 k2 l A).length) := fun h => hc ⟨hL, h⟩
              omega
  · refine ⟨by decide, ?_⟩
    have h1 : wts [(([], l) : Item)] = 2 ^ (l.length + 1) - 1 := by unfold wts; simp [wt]
    have h2 := Nat.pow_le_pow_right (n := 2) (by decide) (show l.length + 1 ≤ 17 by omega)
    have h3 : 2 ^ 17 = 131072 := by decide
    omega
  · have : foes k1 k2 l [] = l := List.filter_eq_self.mpr fun q _ => rfl
    simp [enc, best, barsD, this]
end Law

set_option maxRecDepth 100000
namespace Law
open PySem Pv Pw
/-! quarrels -/
def quar (k : Kd) : List (Int × Int) → Nat
  | [] => 0
  | p :: l => (l.filter fun q => tak k p q).length + quar k l
theorem quar_snoc (k : Kd) (p : Int × Int) : ∀ A : List (Int × Int), quar k (A ++ [p]) = quar k A + (A.filter fun q => tak k q p).length
  | [] => rfl
  | a :: A => by
    rw [List.cons_append]
    show ((A ++ [p]).filter fun q => tak k a q).length + quar k (A ++ [p]) = (A.filter fun q => tak k a q).length + quar k A + _
    rw [quar_snoc k p A, List.filter_append, List.length_append, List.filter_cons]
    by_cases h : tak k a p = true
    · simp [h]; omega
    · simp [h]; omega
theorem quar_app (k : Kd) (A : List (Int × Int)) : ∀ Y : List (Int × Int), quar k A ≤ quar k (A ++ Y) := by
  intro Y
  induction Y generalizing A with
  | nil => rw [List.append_nil]; exact Nat.le_refl _
  | cons y Y ih =>
    have := ih (A ++ [y])
    rw [quar_snoc] at this
    rw [show A ++ y :: Y = A ++ [y] ++ Y by simp]
    omega
abbrev CIt := List (Int × Int) × Nat
def ccov (l : List (Int × Int)) (it : CIt) (X : List (Int × Int)) : Prop := ∃ Y, Y.Sublist (l.drop it.2) ∧ X = it.1 ++ Y
structure CInv (k : Kd) (l : List (Int × Int)) (m : Nat) (st : List CIt) (b : Option (List (Int × Int))) : Prop where
  best : ∀ B, b = some B → B.Sublist l ∧ B.length = m
  sub : ∀ it ∈ st, it.1.Sublist (l.take it.2) ∧ it.2 ≤ l.length ∧ it.1.length ≤ m
  cov : ∀ X, X.Sublist l → X.length = m → (∃ B, b = some B ∧ quar k B ≤ quar k X) ∨ ∃ it ∈ st, ccov l it X
theorem CInv.start (k : Kd) (l : List (Int × Int)) (m : Nat) : CInv k l m [([], 0)] none := by
  refine ⟨(fun B h => by cases h), fun it h => ?_, fun X hX hm => .inr ⟨([], 0), by simp, X, hX, rfl⟩⟩
  rw [List.mem_singleton.mp h]
  exact ⟨List.nil_sublist _, Nat.zero_le _, Nat.zero_le _⟩
theorem CInv.drop {k : Kd} {l : List (Int × Int)} {m : Nat} {st : List CIt} {A : List (Int × Int)} {i : Nat} {b : Option (List (Int × Int))} (h : CInv k l m (st ++ [(A, i)]) b) (hd : (∃ B, b = some B ∧ quar k B ≤ quar k A) ∨ A.length + (l.length - i) < m) : CInv k l m st b := by
  refine ⟨h.best, fun it hi => h.sub it (by simp [hi]), fun X hX hm => ?_⟩
  rcases h.cov X hX hm with h | ⟨it, hi, hc⟩
  · exact .inl h
  · rcases List.mem_append.mp hi with hi | hi
    · exact .inr ⟨it, hi, hc⟩
    · rw [List.mem_singleton.mp hi] at hc
      obtain ⟨Y, hY, rfl⟩ := hc
      rcases hd with ⟨B, hB, hle⟩ | hd
      · exact .inl ⟨B, hB, Nat.le_trans hle (quar_app k A Y)⟩
      · exfalso
        have h1 : Y.length ≤ (l.drop i).length := hY.length_le
        rw [List.length_drop] at h1
        have hm : (A ++ Y).length = m := hm
        rw [List.length_append] at hm
        omega
theorem CInv.better {k : Kd} {l : List (Int × Int)} {m : Nat} {st : List CIt} {A : List (Int × Int)} {i : Nat} {b : Option (List (Int × Int))} (h : CInv k l m (st ++ [(A, i)]) b) (hb : ∀ B, b = some B → quar k A < quar k B) (hA : A.length = m) : CInv k l m st (some A) := by
  refine ⟨fun B e => ?_, fun it hi => h.sub it (by simp [hi]), fun X hX hm => ?_⟩
  · cases e
    exact ⟨(h.sub (A, i) (by simp)).1.trans (List.take_sublist _ _), hA⟩
  · rcases h.cov X hX hm with ⟨B, hB, hle⟩ | ⟨it, hi, hc⟩
    · exact .inl ⟨A, rfl, by have := hb B hB; omega⟩
    · rcases List.mem_append.mp hi with hi | hi
      · exact .inr ⟨it, hi, hc⟩
      · rw [List.mem_singleton.mp hi] at hc
        obtain ⟨Y, hY, rfl⟩ := hc
        exact .inl ⟨A, rfl, quar_app k A Y⟩
theorem CInv.push {k : Kd} {l : List (Int × Int)} {m : Nat} {st : List CIt} {A : List (Int × Int)} {i : Nat} {b : Option (List (Int × Int))} (h : CInv k l m (st ++ [(A, i)]) b) (hA : A.length < m) (hi : i < l.length) : CInv k l m (st ++ [(A, i + 1)] ++ [(A ++ [l[i]], i + 1)]) b := by
  have hs := h.sub (A, i) (by simp)
  have e : l.take (i + 1) = l.take i ++ [l[i]] := by rw [List.take_succ, List.getElem?_eq_getElem hi]; rfl
  refine ⟨h.best, fun it hit => ?_, fun X hX hm => ?_⟩
  · rcases List.mem_append.mp hit with hit | hit
    · rcases List.mem_append.mp hit with hit | hit
      · exact h.sub it (by simp [hit])
      · rw [List.mem_singleton.mp hit]
        refine ⟨?_, hi, hs.2.2⟩
        show A.Sublist (l.take (i + 1))
        rw [e]
        exact hs.1.trans (List.sublist_append_left _ _)
    · rw [List.mem_singleton.mp hit]
      refine ⟨?_, hi, ?_⟩
      · show (A ++ [l[i]]).Sublist (l.take (i + 1))
        rw [e]
        exact List.Sublist.append hs.1 (List.Sublist.refl _)
      · show (A ++ [l[i]]).length ≤ m
        rw [List.length_append]
        exact hA
  · rcases h.cov X hX hm with h | ⟨it, hit, hc⟩
    · exact .inl h
    · right
      rcases List.mem_append.mp hit with hit | hit
      · exact ⟨it, by simp [hit], hc⟩
      · rw [List.mem_singleton.mp hit] at hc
        obtain ⟨Y, hY, rfl⟩ := hc
        have hY : Y.Sublist (l.drop i) := hY
        rw [List.drop_eq_getElem_cons hi] at hY
        cases hY with
        | cons _ hY => exact ⟨(A, i + 1), by simp, Y, hY, rfl⟩
        | cons_cons _ hY => exact ⟨(A ++ [l[i]], i + 1), by simp, _, hY, by simp⟩
def IsLeast (k : Kd) (l : List (Int × Int)) (m : Nat) (B : List (Int × Int)) : Prop := B.Sublist l ∧ B.length = m ∧ ∀ X, X.Sublist l → X.length = m → quar k B ≤ quar k X
theorem CInv.least {k : Kd} {l : List (Int × Int)} {m : Nat} {b : Option (List (Int × Int))} (h : CInv k l m [] b) (hm : m ≤ l.length) : ∃ B, b = some B ∧ IsLeast k l m B := by
  have key : ∀ X, X.Sublist l → X.length = m → ∃ B, b = some B ∧ quar k B ≤ quar k X := fun X hX hm => by
    rcases h.cov X hX hm with h | ⟨it, hi, _⟩
    · exact h
    · cases hi
  obtain ⟨B, hB, _⟩ := key (l.take m) (List.take_sublist _ _) (by rw [List.length_take]; omega)
  refine ⟨B, hB, (h.best B hB).1, (h.best B hB).2, fun X hX hm => ?_⟩
  obtain ⟨B', hB', hle⟩ := key X hX hm
  rw [hB] at hB'
  cases hB'
  exact hle
/-! the search, walked -/
def cenc (k : Kd) (it : CIt) : D := .tup [.tup (it.1.map sq), .int it.2, .int (quar k it.1)]
def cbest (k : Kd) : Option (List (Int × Int)) → D
  | none => .non
  | some B => .tup [.int (quar k B), .tup (B.map sq)]
def cwt (n : Nat) (it : CIt) : Nat := 2 ^ (n - it.2 + 1) - 1
def cwts (n : Nat) (st : List CIt) : Nat := (st.map (cwt n)).sum
theorem cwt_pos (n : Nat) (it : CIt) : 1 ≤ cwt n it := by
  show 1 ≤ 2 ^ (n - it.2 + 1) - 1
  have := Nat.pow_le_pow_right (n := 2) (by decide) (show 1 ≤ n - it.2 + 1 by omega)
  omega
theorem cwts_snoc (n : Nat) (st : List CIt) (it : CIt) : cwts n (st ++ [it]) = cwts n st + cwt n it := by
  unfold cwts
  rw [List.map_append, List.sum_append]
  simp
theorem len_cwts (n : Nat) : ∀ st : List CIt, st.length ≤ cwts n st
  | [] => Nat.zero_le _
  | it :: st => by
    have h1 := len_cwts n st
    have h2 := cwt_pos n it
    have : cwts n (it :: st) = cwt n it + cwts n st := by unfold cwts; rw [List.map_cons, List.sum_cons]
    rw [this, List.length_cons]
    omega
theorem cenc_plL (k : Kd) : ∀ st : List CIt, D.plL (st.map (cenc k)) = true ∧ D.depL (st.map (cenc k)) ≤ 3
  | [] => ⟨rfl, Nat.zero_le _⟩
  | it :: st => by
    obtain ⟨h1, h2⟩ := cenc_plL k st
    have g1 := sq_shpL it.1
    constructor
    · show (D.pl (cenc k it) && D.plL (st.map (cenc k))) = true
      rw [h1, Bool.and_true]
      show (D.plL _ && (true && (true && true))) = true
      rw [g1.1]; rfl
    · show max (max (D.depL _ + 1) (max 0 (max 0 0)) + 1) (D.depL (st.map (cenc k))) ≤ 3
      omega
theorem cst_nil (k : Kd) (st : List CIt) : eqD (.lst (st.map (cenc k))) (.lst []) = some st.isEmpty := by
  obtain ⟨h1, h2⟩ := cenc_plL k st
  rw [eq_nilL h1 (by omega), List.isEmpty_map]
def cgo (k : Kd) (A : List (Int × Int)) : Option (List (Int × Int)) → Bool
  | none => true
  | some B => decide (quar k A < quar k B)
theorem r_calmest_in (n : Nat) (k : Kd) (l : List (Int × Int)) (hl : l.length ≤ 16) (m : Nat) (hm : m ≤ l.length) (s : S) {Q : D → S → Prop} (hQ : ∀ B, IsLeast k l m B → Q (.tup [.int (quar k B), .tup (B.map sq)]) s) : wpR (C (n+2) n_calmest_in [.tup (l.map sq), kd k, .int m] s) Q := by
  rw [u_calmest_in]
  have hl2 : l.length ≤ 16777216 := by omega
  simp [b_calmest_in]
  refine whl_rule (fun K t => ∃ (st : List CIt) (b : Option (List (Int × Int))) (a5 a6 a7 a8 : Sl), (K ≤ 200000 ∧ cwts l.length st ≤ K) ∧ CInv k l m st b ∧ t = ⟨[.fz (.tup (l.map sq)), .fz (kd k), .fz (.int m), .fz (cbest k b), .ow (.lst (st.map (cenc k))), a5, a6, a7, a8, .un], s.sh⟩) ?_ WH 200000 _ (by decide) ⟨[([], 0)], none, .un, .un, .un, .un, ?_, CInv.start k l m, rfl⟩
  · rintro K t ⟨st, b, a5, a6, a7, a8, ⟨hk0, hk⟩, hi, rfl⟩
    refine wpR_mono (Q := fun r s' => r = (!st.isEmpty) ∧ s' = ⟨[.fz (.tup (l.map sq)), .fz (kd k), .fz (.int m), .fz (cbest k b), .ow (.lst (st.map (cenc k))), a5, a6, a7, a8, .un], s.sh⟩) (by simp [cst_nil]) ?_
    rintro _ _ ⟨rfl, rfl⟩
    rcases List.eq_nil_or_concat st with rfl | ⟨st', it, rfl⟩
    · rw [if_neg (by simp)]
      simp
      obtain ⟨B, rfl, hB⟩ := hi.least hm
      exact hQ B hB
    · rw [if_pos (by simp)]
      obtain ⟨A, i⟩ := it
      rw [List.concat_eq_append] at hk hi ⊢
      rw [cwts_snoc] at hk
      have hw1 := cwt_pos l.length (A, i)
      refine ⟨K - 1, by omega, fun Q' hq => ?_⟩
      obtain ⟨hA1, hA2, hA3⟩ := hi.sub (A, i) (by simp)
      have hA1 : A.Sublist (l.take i) := hA1
      have hA2 : i ≤ l.length := hA2
      have hA3 : A.length ≤ m := hA3
      have e1 : cenc k (A, i) = .tup [.tup (A.map sq), .int i, .int (quar k A)] := rfl
      have hlen : st'.length + 2 < 16777216 := by
        have := len_cwts l.length st'
        omega
      have hlen1 : st'.length < 16777216 := by omega
      have hlen2 : st'.length + 1 < 16777216 := by omega
      rw [wp_cons]
      refine wpR_mono (Q := fun r s' => r = .nx ∧ s' = ⟨[.fz (.tup (l.map sq)), .fz (kd k), .fz (.int m), .fz (cbest k b), .ow (.lst (st'.map (cenc k))), .fz (.tup (A.map sq)), .fz (.int i), .fz (.int (quar k A)), a8, .un], s.sh⟩) (by simp [e1]) ?_
      rintro _ _ ⟨rfl, rfl⟩
      rw [seqQ_nx, wp_cons]
      rw [xS_iff, wpR_bind]
      refine wpR_mono (Q := fun r s' => r = cgo k A b ∧ s' = ⟨[.fz (.tup (l.map sq)), .fz (kd k), .fz (.int m), .fz (cbest k b), .ow (.lst (st'.map (cenc k))), .fz (.tup (A.map sq)), .fz (.int i), .fz (.int (quar k A)), a8, .un], s.sh⟩) ?_ ?_
      · cases b with
        | none => simp [cbest, isD, cgo]
        | some B => simp [cbest, isD, cgo]
      · rintro _ _ ⟨rfl, rfl⟩
        cases hgo : cgo k A b with
        | false =>
          rw [if_neg (by decide)]
          simp
          refine hq _ ⟨st', b, _, _, _, _, ⟨by omega, by omega⟩, hi.drop (.inl ?_), rfl⟩
          cases b with
          | none => cases hgo
          | some B =>
            have : ¬ quar k A < quar k B := of_decide_eq_false hgo
            exact ⟨B, rfl, by omega⟩
        | true =>
          rw [if_pos rfl]
          have hb : ∀ B, b = some B → quar k A < quar k B := fun B hB => by
            subst hB
            exact of_decide_eq_true hgo
          by_cases hAm : A.length = m
          · simp [hAm]
            refine hq _ ⟨st', some A, _, _, _, _, ⟨by omega, by omega⟩, hi.better hb hAm, rfl⟩
          · have hAm2 : ¬ (A.length : Int) = m := by omega
            by_cases hroom : (m : Int) - A.length ≤ (l.length : Int) - i
            · have hil : i < l.length := by omega
              have hat : ∀ sh, idxD sh (.tup (l.map sq)) (.int i) = some (sq l[i]) := fun sh => by
                show atD (l.map sq) (i : Int) = _
                rw [atD_pos (by omega) (by simp; omega)]
                simp [hil]
              have h16 : A.length ≤ 16777216 := by omega
              have hadd : binD .Add (.tup (A.map sq)) (.tup [sq l[i]]) = some (.tup ((A ++ [l[i]]).map sq)) := by
                rw [b_addt _ _ (by rw [sz_line, List.length_map]; simp; omega), List.map_append]
                rfl
              simp [hAm, hAm2, hroom]
              rw [comp_filter (p := fun q => tak k q l[i]) (g := sq) (by rfl) (by rw [sz_line]; omega) (fun q hq => ?_)]
              rotate_left
              · simp [hat, k_takes]
              simp [hat, hadd, hlen1, hlen2]
              refine hq _ ⟨st' ++ [(A, i + 1)] ++ [(A ++ [l[i]], i + 1)], b, .fz (.tup (A.map sq)), .fz (.int i), .fz (.int (quar k A)), .fz (.int (A.filter fun q => tak k q l[i]).length), ⟨by omega, ?_⟩, hi.push (by omega) hil, ?_⟩
              · rw [cwts_snoc, cwts_snoc]
                have h1 : cwt l.length (A, i) = 2 ^ (l.length - i + 1) - 1 := rfl
                have h2 : cwt l.length (A, i + 1) = 2 ^ (l.length - (i + 1) + 1) - 1 := rfl
                have h3 : cwt l.length (A ++ [l[i]], i + 1) = 2 ^ (l.length - (i + 1) + 1) - 1 := rfl
                have h4 : 2 ^ (l.length - i + 1) = 2 * 2 ^ (l.length - (i + 1) + 1) := by
                  rw [show l.length - i + 1 = l.length - (i + 1) + 1 + 1 by omega, Nat.pow_succ]; omega
                have h5 := Nat.pow_le_pow_right (n := 2) (by decide) (show 1 ≤ l.length - (i + 1) + 1 by omega)
                omega
              · simp [cenc, quar_snoc]
            · simp [hAm, hAm2, hroom]
              refine hq _ ⟨st', b, _, _, _, _, ⟨by omega, by omega⟩, hi.drop (.inr (by omega)), rfl⟩
  · refine ⟨by decide, ?_⟩
    have h1 : cwts l.length [(([], 0) : CIt)] = 2 ^ (l.length + 1) - 1 := by unfold cwts; simp [cwt]
    have h2 := Nat.pow_le_pow_right (n := 2) (by decide) (show l.length + 1 ≤ 17 by omega)
    have h3 : 2 ^ 17 = 131072 := by decide
    omega
end Law

set_option maxRecDepth 100000
namespace Law
open PySem Pv Pw
section
variable {R C' : Nat} {f : Int → Int → Bool} (h : BdOk R C') {k1 k2 : Kd} (hk1 : KdOk k1) (hk2 : KdOk k2)
include h
theorem k_need_camps (n : Nat) (hk1 : KdOk k1) (hk2 : KdOk k2) (s : S) : C (n+5) n_need_camps [bd R C' f, kd k1, kd k2] s = .ok .non s := by
  apply eq_of_wpR
  rw [u_need_camps]
  simp [b_need_camps, k_need_board, k_need_kind, h, hk1, hk2]
theorem k_need_few (n : Nat) (hf : (sqs R C' f).length ≤ 16) (s : S) : C (n+2) n_need_few_squares [bd R C' f] s = .ok .non s := by
  apply eq_of_wpR
  rw [u_need_few_squares]
  have h1 : ¬ (16 : Int) < (sqs R C' f).length := by omega
  have h2 : ¬ 16 < (sqs R C' f).length := by omega
  simp [b_need_few_squares, k_squares_in, h, h1, h2]
theorem k_need_crowd (n : Nat) (hk1 : KdOk k1) (hf : (sqs R C' f).length ≤ 16) (m : Nat) (hm : m ≤ (sqs R C' f).length) (s : S) : C (n+5) n_need_crowd [bd R C' f, kd k1, .int m] s = .ok .non s := by
  apply eq_of_wpR
  rw [u_need_crowd]
  have h1 : (0 : Int) ≤ m := by omega
  have h2 : (m : Int) ≤ (sqs R C' f).length := by omega
  simp [b_need_crowd, k_need_board, k_need_kind, k_squares_in, k_need_few, h, hk1, hf, k_need_whole, h1, h2, hm]
theorem k_are_armies (n : Nat) (hk1 : KdOk k1) (hk2 : KdOk k2) (d : D) (ht : tny 40 d = true) (s : S) : C (n+7) n_are_armies [bd R C' f, kd k1, kd k2, d] s = .ok (.bl (isArmies (sqs R C' f) k1 k2 d)) s := by
  apply eq_of_wpR
  rw [u_are_armies]
  simp [b_are_armies, k_need_camps, k_fits_armies, h, hk1, hk2, ht]
theorem r_most (n : Nat) (hk1 : KdOk k1) (hk2 : KdOk k2) (hf : (sqs R C' f).length ≤ 16) {sl : List Sl} {sh : List D} {Q : D → S → Prop} (hQ : ∀ M : Nat, IsMost k1 k2 (sqs R C' f) M → Q (.int M) ⟨sl, sh⟩) : wpR (C (n+6) n_most_armies [bd R C' f, kd k1, kd k2] ⟨sl, sh⟩) Q := by
  rw [u_most_armies]
  simp [b_most_armies, k_need_camps, k_need_few, k_squares_in, h, hk1, hk2, hf]
  refine r_armies_in (n+2) k1 k2 _ hf (asc_nodup (sqs_sorted _ _ _)) _ fun b0 b1 hi => ?_
  simp [best]
  exact hQ _ hi.most
theorem r_armies (n : Nat) (hk1 : KdOk k1) (hk2 : KdOk k2) (hf : (sqs R C' f).length ≤ 16) {sl : List Sl} {sh : List D} {Q : D → S → Prop} (hQ : ∀ b0 b1, Inv k1 k2 (sqs R C' f) [] b0 b1 → Q (best b0 b1) ⟨sl, sh⟩) : wpR (C (n+6) n_armies_for [bd R C' f, kd k1, kd k2] ⟨sl, sh⟩) Q := by
  rw [u_armies_for]
  simp [b_armies_for, k_need_camps, k_need_few, k_squares_in, h, hk1, hk2, hf]
  refine r_armies_in (n+2) k1 k2 _ hf (asc_nodup (sqs_sorted _ _ _)) _ fun b0 b1 hi => ?_
  simp
  exact hQ _ _ hi
theorem r_fewest (n : Nat) (hk1 : KdOk k1) (hf : (sqs R C' f).length ≤ 16) (m : Nat) (hm : m ≤ (sqs R C' f).length) {sl : List Sl} {sh : List D} {Q : D → S → Prop} (hQ : ∀ B, IsLeast k1 (sqs R C' f) m B → Q (.int (2 * quar k1 B : Nat)) ⟨sl, sh⟩) : wpR (C (n+6) n_fewest_quarrels [bd R C' f, kd k1, .int m] ⟨sl, sh⟩) Q := by
  rw [u_fewest_quarrels]
  simp [b_fewest_quarrels, k_need_crowd, k_squares_in, h, hk1, hf, hm]
  refine r_calmest_in (n+3) k1 _ hf m hm _ fun B hB => ?_
  simp
  have := hQ B hB
  simpa using this
theorem r_calmest (n : Nat) (hk1 : KdOk k1) (hf : (sqs R C' f).length ≤ 16) (m : Nat) (hm : m ≤ (sqs R C' f).length) {sl : List Sl} {sh : List D} {Q : D → S → Prop} (hQ : ∀ B, IsLeast k1 (sqs R C' f) m B → Q (.tup (B.map sq)) ⟨sl, sh⟩) : wpR (C (n+6) n_calmest [bd R C' f, kd k1, .int m] ⟨sl, sh⟩) Q := by
  rw [u_calmest]
  simp [b_calmest, k_need_crowd, k_squares_in, h, hk1, hf, hm]
  refine r_calmest_in (n+3) k1 _ hf m hm _ fun B hB => ?_
  simp
  exact hQ B hB
theorem k_are_placed (n : Nat) (d : D) (ht : tny 40 d = true) (s : S) : C (n+6) n_are_placed [bd R C' f, d] s = .ok (.bl (isArmy (sqs R C' f) d)) s := by
  apply eq_of_wpR
  rw [u_are_placed]
  have e : ∀ s, C (n+5) n_fits_placed [bd R C' f, d] s = .ok (.bl (isArmy (sqs R C' f) d)) s := fun s => k_fits_placedV n h d (tny_pl d ht) (tny_okk (by decide) d ht) s
  simp [b_are_placed, k_need_board, h, e]
end
/-! all lots -/
def lots {α : Type} (l : List α) : List (List α) := l.foldl (fun acc x => acc ++ acc.map fun a => a ++ [x]) [[]]
theorem lots_snoc {α : Type} (l : List α) (x : α) : lots (l ++ [x]) = lots l ++ (lots l).map fun a => a ++ [x] := by
  unfold lots
  rw [List.foldl_append]
  rfl
theorem lots_len {α : Type} (l : List α) : (lots l).length = 2 ^ l.length := by
  rcases List.eq_nil_or_concat l with rfl | ⟨l', x, rfl⟩
  · rfl
  · rw [List.concat_eq_append, lots_snoc, List.length_append, List.length_map, lots_len l', List.length_append, List.length_singleton, Nat.pow_succ]
    omega
termination_by l.length
decreasing_by simp_all
theorem mem_lots {α : Type} : ∀ (l a : List α), a ∈ lots l ↔ a.Sublist l := by
  intro l
  induction hn : l.length generalizing l with
  | zero =>
    obtain rfl := List.length_eq_zero_iff.mp hn
    intro a
    show a ∈ [[]] ↔ _
    simp
  | succ n ih =>
    rcases List.eq_nil_or_concat l with rfl | ⟨l', x, rfl⟩
    · cases hn
    · intro a
      rw [List.concat_eq_append] at hn ⊢
      rw [List.length_append, List.length_singleton] at hn
      rw [lots_snoc, List.mem_append, List.mem_map, ih l' (by omega) a, List.sublist_append_iff]
      constructor
      · rintro (hs | ⟨b, hb, rfl⟩)
        · exact ⟨a, [], by simp, hs, List.nil_sublist _⟩
        · exact ⟨b, [x], rfl, (ih l' (by omega) b).mp hb, List.Sublist.refl _⟩
      · rintro ⟨b, c, rfl, hb, hc⟩
        cases hc with
        | cons _ hc =>
          rw [List.eq_nil_of_sublist_nil hc]
          left; simpa using hb
        | cons_cons _ hc =>
          rw [List.eq_nil_of_sublist_nil hc]
          right; exact ⟨b, (ih l' (by omega) b).mpr hb, rfl⟩
theorem rng_succ (n : Nat) : rng (n + 1) = rng n ++ [(n : Int)] := by
  unfold rng
  rw [List.range_succ, List.map_append]
  rfl
def q2 (k : Kd) (l : List (Int × Int)) : Int := ((rng l.length).map fun i => (((l.take i.toNat).filter fun q => tak k (l.getD i.toNat (0, 0)) q).length : Int)).sum
theorem q2_snoc (k : Kd) (l : List (Int × Int)) (x : Int × Int) : q2 k (l ++ [x]) = q2 k l + ((l.filter fun q => tak k x q).length : Int) := by
  unfold q2
  rw [List.length_append, List.length_singleton, rng_succ, List.map_append, List.sum_append]
  congr 1
  · congr 1
    refine List.map_congr_left fun i hi => ?_
    obtain ⟨h0, h1⟩ := rng_mem.mp hi
    have h2 : i.toNat < l.length := by omega
    rw [List.take_append_of_le_length (by omega), List.getD_eq_getElem?_getD, List.getD_eq_getElem?_getD, List.getElem?_append_left h2]
  · simp
theorem q2_eq (k : Kd) : ∀ l : List (Int × Int), q2 k l = quar k l := by
  intro l
  induction hn : l.length generalizing l with
  | zero =>
    obtain rfl := List.length_eq_zero_iff.mp hn
    rfl
  | succ n ih =>
    rcases List.eq_nil_or_concat l with rfl | ⟨l', x, rfl⟩
    · cases hn
    · rw [List.concat_eq_append] at hn ⊢
      rw [List.length_append, List.length_singleton] at hn
      rw [q2_snoc, quar_snoc, ih l' (by omega)]
      have : (l'.filter fun q => tak k x q) = l'.filter fun q => tak k q x := List.filter_congr fun q _ => tak_symm k x q
      rw [this]
      omega
theorem apart_eq (k : Kd) (l : List (Int × Int)) : (!((rng l.length).any fun i => (l.take i.toNat).any fun q => tak k (l.getD i.toNat (0, 0)) q)) = decide (quar k l = 0) := by
  have key : q2 k l = 0 ↔ ((rng l.length).any fun i => (l.take i.toNat).any fun q => tak k (l.getD i.toNat (0, 0)) q) = false := by
    unfold q2
    generalize rng l.length = r
    induction r with
    | nil => simp
    | cons i r ih =>
      rw [List.map_cons, List.sum_cons, List.any_cons, Bool.or_eq_false_iff, ← ih]
      have h1 : ((((l.take i.toNat).filter fun q => tak k (l.getD i.toNat (0, 0)) q).length : Int)) = 0 ↔ ((l.take i.toNat).any fun q => tak k (l.getD i.toNat (0, 0)) q) = false := by
        rw [Int.natCast_eq_zero, List.length_eq_zero_iff, List.filter_eq_nil_iff, List.any_eq_false]
      have h2 : (0 : Int) ≤ (r.map fun i => (((l.take i.toNat).filter fun q => tak k (l.getD i.toNat (0, 0)) q).length : Int)).sum := by
        clear ih h1
        induction r with
        | nil => simp
        | cons j r ih => rw [List.map_cons, List.sum_cons]; omega
      rw [← h1]
      omega
  rw [q2_eq] at key
  rw [Bool.eq_iff_iff, decide_eq_true_iff, Bool.not_eq_true']
  rw [← key]
  omega
theorem k_law_quarrels (n : Nat) (k : Kd) (l : List (Int × Int)) (hl : l.length ≤ 16777216) (s : S) : C (n+2) n__law_quarrels [kd k, .tup (l.map sq)] s = .ok (.int (2 * quar k l : Nat)) s := by
  apply eq_of_wpR
  rw [u__law_quarrels]
  simp [b__law_quarrels]
  rw [enum_list (0, 0), comp_map (g := fun i => .int (((l.take i.toNat).filter fun q => tak k (l.getD i.toNat (0, 0)) q).length : Int)) (by rfl) (by simpa using hl) (fun i hi => ?_)]
  · have := q2_eq k l
    unfold q2 at this
    simp only [List.getD_eq_getElem?_getD] at this
    simp [this]
  · simp [cut_take, (rng_mem.mp hi).1]
    rw [← List.map_take, comp_filter (p := fun q => tak k (l[i.toNat]?.getD (0, 0)) q) (g := sq) (by rfl) (by simp; omega) (fun q hq => by simp [k_law_takes])]
    simp [-List.map_take]
theorem k_law_lots (n : Nat) (l : List (Int × Int)) (hl : l.length ≤ 16) (s : S) : C (n+1) n__law_lots [.lst (l.map sq)] s = .ok (.lst ((lots l).map fun a => .tup (a.map sq))) s := by
  apply eq_of_wpR
  rw [u__law_lots]
  simp [b__law_lots]
  refine for_rule (fun (p : List (Int × Int)) (t : S) => ∃ a, t = ⟨[.fz (.lst (l.map sq)), .fz (.lst ((lots p).map fun a => .tup (a.map sq))), a, .un], s.sh⟩) ⟨.un, rfl⟩ ?_ ?_
  · rintro p x q _ hp ⟨a, rfl⟩
    have hpl : p.length + 1 ≤ l.length := by have := congrArg List.length hp; simp at this; omega
    have hpw := Nat.pow_le_pow_right (n := 2) (by decide) (show p.length ≤ 15 by omega)
    have h15 : 2 ^ 15 = 32768 := by decide
    have hll := lots_len p
    simp
    rw [comp_map (enc := fun a : List (Int × Int) => .tup (a.map sq)) (g := fun a => .tup ((a ++ [x]).map sq)) (by rfl) (by rw [sz_line]; omega) (fun b hb => ?_)]
    · rw [lots_snoc]
      have hadd : binD .Add (.lst ((lots p).map fun a => .tup (a.map sq))) (.lst ((lots p).map fun a => .tup ((a ++ [x]).map sq))) = some (.lst (((lots p).map fun a => .tup (a.map sq)) ++ (lots p).map fun a => .tup ((a ++ [x]).map sq))) := b_addl _ _ (by rw [sz_line, List.length_map, List.length_map]; omega)
      simp only [List.map_append, List.map_cons, List.map_nil] at hadd
      simp [hadd, Function.comp_def]
    · have hb' := ((mem_lots p b).mp hb).length_le
      have hadd : binD .Add (.tup (b.map sq)) (.tup [sq x]) = some (.tup ((b ++ [x]).map sq)) := by
        rw [b_addt _ _ (by rw [sz_line, List.length_map]; simp; omega), List.map_append]
        rfl
      simp [hadd]
  · rintro t ⟨a, rfl⟩
    simp
end Law

set_option maxRecDepth 100000
namespace Law
open PySem Pv Pw
/-! the most armies by trying all -/
theorem sub_sorted {l A : List (Int × Int)} (h : A.Sublist l) (hs : l.Pairwise sqLt) : A.Pairwise sqLt := hs.sublist h
theorem tny_sq (m : Nat) (hm : 2 ≤ m) (p : Int × Int) : tny m (sq p) = true := tny_mono hm _ rfl
theorem tny_sqs {m : Nat} (hm : 2 ≤ m) {l : List (Int × Int)} (hl : l.length ≤ m) : tny m (.tup (l.map sq)) = true := by
  rw [tny_tup]
  refine ⟨by simpa using hl, fun d hd => ?_⟩
  obtain ⟨p, _, rfl⟩ := List.mem_map.mp hd
  exact tny_sq m hm p
theorem dep_sqs (l : List (Int × Int)) : (D.tup (l.map sq)).dep ≤ 2 := dep_tup.mpr fun d hd => by
  obtain ⟨p, _, rfl⟩ := List.mem_map.mp hd
  exact Nat.le_refl 1
theorem tny_two {m : Nat} (hm : 2 ≤ m) {x y : D} (hx : tny m x = true) (hy : tny m y = true) : tny m (.tup [x, y]) = true := by
  rw [tny_tup]
  refine ⟨hm, fun d hd => ?_⟩
  simp only [List.mem_cons, List.not_mem_nil, or_false] at hd
  rcases hd with rfl | rfl
  · exact hx
  · exact hy
theorem dep_two {x y : D} (hx : x.dep ≤ 2) (hy : y.dep ≤ 2) : (D.tup [x, y]).dep ≤ 3 := dep_tup.mpr fun d hd => by
  simp only [List.mem_cons, List.not_mem_nil, or_false] at hd
  rcases hd with rfl | rfl
  · exact hx
  · exact hy
theorem isArmies_one {l A : List (Int × Int)} {k1 k2 : Kd} {q : Int × Int} (hs : l.Pairwise sqLt) (hA : A.Sublist l) (hq : q ∈ l) : isArmies l k1 k2 (.tup [.tup (A.map sq), .tup [sq q]]) = A.all fun p => !clash k1 k2 p q := by
  have e : (.tup [sq q] : D) = .tup ([q].map sq) := rfl
  rw [e, isArmies_2, isArmy_iff.mpr ⟨A, rfl, fun p hp => hA.subset hp, sub_sorted hA hs⟩, isArmy_iff.mpr ⟨[q], rfl, by simpa using hq, by simp⟩]
  unfold noCl
  simp
theorem r_law_most (n : Nat) {R C' : Nat} {f : Int → Int → Bool} (h : BdOk R C') (k1 k2 : Kd) (hf : (sqs R C' f).length ≤ 16) {sl : List Sl} {sh : List D} {Q : D → S → Prop} (hQ : ∀ M : Nat, IsMost k1 k2 (sqs R C' f) M → Q (.int M) ⟨sl, sh⟩) : wpR (C (n+5) n__law_most [bd R C' f, kd k1, kd k2] ⟨sl, sh⟩) Q := by
  rw [u__law_most]
  have hsorted := sqs_sorted R C' f
  simp [b__law_most, k_law_squares, k_law_lots, h, hf]
  generalize hgl : sqs R C' f = l at *
  refine for_rule (fun (p : List (List (Int × Int))) (t : S) => ∃ (M : Nat) (a b : Sl), ((∀ X ∈ p, val k1 k2 l X ≤ M) ∧ ∃ X, X.Sublist l ∧ M ≤ val k1 k2 l X) ∧ t = ⟨[.fz (bd R C' f), .fz (kd k1), .fz (kd k2), a, .fz (.lst (l.map sq)), .fz (.int M), b, .un], sh⟩) ⟨0, .un, .un, ⟨by simp, [], List.nil_sublist _, Nat.zero_le _⟩, rfl⟩ ?_ ?_
  · rintro p A q _ hp ⟨M, a, b, ⟨h1, h2⟩, rfl⟩
    have hA : A.Sublist l := (mem_lots l A).mp (by rw [← hp]; simp)
    have hAl := hA.length_le
    by_cases hlt : M < A.length
    · simp [hlt]
      rw [comp_filter (p := fun q => A.all fun p => !clash k1 k2 p q) (g := sq) (by rfl) (by rw [sz_line]; omega) (fun q hq => ?_)]
      rotate_left
      · have e : ∀ s, C (n+4) n__law_are_armies [bd R C' f, kd k1, kd k2, .tup [.tup (A.map sq), .tup [sq q]]] s = .ok (.bl (A.all fun p => !clash k1 k2 p q)) s := fun s => by
          have := k_law_are_armies n (f := f) h k1 k2 (.tup [.tup (A.map sq), .tup [sq q]]) (tny_two (by decide) (tny_sqs (by decide) (by omega)) (tny_sqs (l := [q]) (by decide) (by simp))) (Nat.le_trans (dep_two (dep_sqs A) (dep_sqs [q])) (by decide)) s
          rw [this, hgl, isArmies_one hsorted hA hq]
        simp [e]
      have hv : (if ((foes k1 k2 l A).length : Int) < (A.length : Int) then ((foes k1 k2 l A).length : Int) else (A.length : Int)) = ((val k1 k2 l A : Nat) : Int) := by
        unfold val; split <;> omega
      have hv2 : (if (M : Int) < ((val k1 k2 l A : Nat) : Int) then ((val k1 k2 l A : Nat) : Int) else (M : Int)) = ((max M (val k1 k2 l A) : Nat) : Int) := by
        split <;> omega
      rw [show (l.filter fun q => A.all fun p => !clash k1 k2 p q) = foes k1 k2 l A from rfl]
      simp at hv hv2
      simp [hv, hv2]
      refine ⟨max M (val k1 k2 l A), ⟨fun X hX => ?_, ?_⟩, rfl⟩
      · rcases hX with hX | rfl
        · exact Nat.le_trans (h1 X hX) (Nat.le_max_left _ _)
        · exact Nat.le_max_right _ _
      · rcases Nat.le_total M (val k1 k2 l A) with hle | hle
        · rw [Nat.max_eq_right hle]; exact ⟨A, hA, Nat.le_refl _⟩
        · rw [Nat.max_eq_left hle]; exact h2
    · simp [hlt]
      refine ⟨M, ⟨fun X hX => ?_, h2⟩, rfl⟩
      rcases hX with hX | rfl
      · exact h1 X hX
      · unfold val; omega
  · rintro t ⟨M, a, b, ⟨h1, h2⟩, rfl⟩
    simp
    exact hQ M ⟨fun X hX => h1 X ((mem_lots l X).mpr hX), h2⟩
end Law

set_option maxRecDepth 100000
namespace Law
open PySem Pv Pw
/-! dicts with ints for keys -/
def kvI (g : Int → Option Int) (ks : List Int) : List (D × D) := ks.filterMap fun i => (g i).map fun v => (.int i, .int v)
/-- what a dict of ints holds -/
def Holds (kvs : List (D × D)) (g : Int → Option Int) : Prop := ∀ i : Int, dLook kvs (.int i) = (g i).map .int
theorem int_eqv (i j : Int) : (D.int i).eqv (.int j) = decide (i = j) := by
  rw [Bool.eq_iff_iff, decide_eq_true_iff]
  show (i == j) = true ↔ _
  simp
structure IDict (kvs : List (D × D)) (g : Int → Option Int) : Prop where
  look : ∀ i : Int, dLook kvs (.int i) = (g i).map .int
  keys : ∀ p ∈ kvs, ∃ i : Int, p.1 = .int i
theorem look_cons (p : D × D) (kvs : List (D × D)) (k : D) : dLook (p :: kvs) k = if p.1.eqv k then some p.2 else dLook kvs k := by
  unfold dLook
  rw [List.find?_cons]
  cases p.1.eqv k <;> rfl
theorem look_map {kvs : List (D × D)} {j : Int} {v : D} (hk : ∀ p ∈ kvs, ∃ i : Int, p.1 = .int i) (i : Int) : dLook (kvs.map fun p => if p.1.eqv (.int j) then (p.1, v) else p) (.int i) = if i = j then (dLook kvs (.int i)).map fun _ => v else dLook kvs (.int i) := by
  induction kvs with
  | nil => simp [dLook]
  | cons p kvs ih =>
    obtain ⟨a, ha⟩ := hk p (by simp)
    obtain ⟨p1, p2⟩ := p
    have ha : p1 = .int a := ha
    subst ha
    rw [List.map_cons, look_cons, look_cons, ih fun q hq => hk q (by simp [hq])]
    simp only [int_eqv]
    by_cases h1 : a = j
    · subst h1
      by_cases h2 : a = i
      · subst h2; simp [int_eqv]
      · have h3 : ¬ i = a := fun e => h2 e.symm
        simp [int_eqv, h2, h3]
    · by_cases h2 : a = i
      · subst h2; simp [int_eqv, h1]
      · simp [int_eqv, h1, h2]
theorem look_app {kvs : List (D × D)} {j : Int} {v : D} (hn : dLook kvs (.int j) = none) (i : Int) : dLook (kvs ++ [(.int j, v)]) (.int i) = if i = j then some v else dLook kvs (.int i) := by
  induction kvs with
  | nil =>
    rw [List.nil_append, look_cons]
    simp only [int_eqv]
    by_cases h : j = i
    · subst h; simp
    · have h3 : ¬ i = j := fun e => h e.symm
      simp [h, h3, dLook]
  | cons p kvs ih =>
    rw [look_cons] at hn
    rw [List.cons_append, look_cons, look_cons]
    split at hn
    · cases hn
    · rename_i hne
      rw [ih hn]
      by_cases h : i = j
      · subst h
        rw [if_neg hne, if_pos rfl, if_pos rfl]
      · rw [if_neg h, if_neg h]
theorem any_look {kvs : List (D × D)} {j : Int} : kvs.any (fun p => p.1.eqv (.int j)) = (dLook kvs (.int j)).isSome := by
  induction kvs with
  | nil => rfl
  | cons p kvs ih =>
    rw [List.any_cons, look_cons, ih]
    cases p.1.eqv (.int j) <;> simp
theorem IDict.put {kvs : List (D × D)} {g : Int → Option Int} (h : IDict kvs g) (j v : Int) : IDict (dPut kvs (.int j) (.int v)) fun i => if i = j then some v else g i := by
  unfold dPut
  rw [any_look, h.look]
  cases hg : g j with
  | none =>
    refine ⟨fun i => ?_, fun p hp => ?_⟩
    · rw [Option.map_none, if_neg (by simp), look_app (by rw [h.look, hg]; rfl), h.look]
      split <;> rfl
    · rw [Option.map_none, if_neg (by simp)] at hp
      rcases List.mem_append.mp hp with hp | hp
      · exact h.keys p hp
      · rw [List.mem_singleton.mp hp]; exact ⟨j, rfl⟩
  | some w =>
    refine ⟨fun i => ?_, fun p hp => ?_⟩
    · rw [Option.map_some, if_pos (show (some (D.int w)).isSome = true from rfl), look_map h.keys, h.look]
      by_cases hi : i = j
      · subst hi; simp [hg]
      · simp [hi]
    · rw [Option.map_some, if_pos (show (some (D.int w)).isSome = true from rfl)] at hp
      obtain ⟨q, hq, rfl⟩ := List.mem_map.mp hp
      obtain ⟨a, ha⟩ := h.keys q hq
      refine ⟨a, ?_⟩
      split <;> exact ha
theorem put_len (kvs : List (D × D)) (k v : D) : (dPut kvs k v).length ≤ kvs.length + 1 := by
  unfold dPut
  split
  · simp
  · simp
theorem IDict.nil : IDict [] fun _ => none := ⟨fun _ => rfl, fun p hp => by cases hp⟩
end Law

set_option maxRecDepth 100000
namespace Law
open PySem Pv Pw
/-! lists of ints in order -/
theorem int_le (a b : Int) : dLe (.int a) (.int b) = !(D.int b).lt (.int a) := rfl
theorem int_lt (a b : Int) : (D.int a).lt (.int b) = decide (a < b) := by
  show (PySem.W.dataLt (D.int a).toP (D.int b).toP) = _
  first
    | (show (decide (a < b) || (!decide (b < a) && false)) = _; simp)
    | (show (decide ((1 : Int) < 1) || (!decide ((1 : Int) < 1) && (decide (a < b) || (!decide (b < a) && false)))) = _; simp)
theorem ints_plL : ∀ l : List Int, D.plL (l.map .int) = true ∧ D.depL (l.map .int) = 0
  | [] => ⟨rfl, rfl⟩
  | i :: l => by
    obtain ⟨h1, h2⟩ := ints_plL l
    exact ⟨by rw [List.map_cons, D.plL, h1]; rfl, by rw [List.map_cons, D.depL, h2]; rfl⟩
theorem sorted_ints {l : List Int} (h : l.Pairwise (· ≤ ·)) (hl : l.length ≤ sizeLine) : sortedD [.lst (l.map .int)] = some (.lst (l.map .int)) := by
  show (srtD (l.map .int)).map D.lst = _
  unfold srtD
  have h1 : aliAll (l.map .int) = true := by
    unfold aliAll
    rw [List.all_eq_true]
    intro x hx
    rw [List.all_eq_true]
    intro y hy
    obtain ⟨a, _, rfl⟩ := List.mem_map.mp hx
    obtain ⟨b, _, rfl⟩ := List.mem_map.mp hy
    rfl
  have h2 : srtAll (l.map .int) = true := by
    unfold srtAll
    rw [Bool.or_eq_true]
    refine .inr ?_
    rw [List.all_eq_true]
    intro x hx
    obtain ⟨a, _, rfl⟩ := List.mem_map.mp hx
    rfl
  have h3 : lenOk (l.map D.int) = true := by unfold lenOk; rw [List.length_map]; exact decide_eq_true hl
  obtain ⟨h4, h5⟩ := ints_plL l
  rw [h1, h2, h3, h4, h5]
  have h6 : (l.map D.int).mergeSort dLe = l.map .int := List.mergeSort_of_pairwise (by
    rw [List.pairwise_map]
    refine h.imp fun {a b} hab => ?_
    rw [int_le, int_lt]
    have : ¬ b < a := by omega
    simp [this])
  show Option.map D.lst (some ((l.map D.int).mergeSort dLe)) = _
  rw [h6]
  rfl
theorem eq_ints (l : List Int) : eqD (.lst (l.map .int)) (.lst (l.map .int)) = some true := by
  have h1 : (D.lst (l.map .int)).shp = true := by
    obtain ⟨h4, h5⟩ := ints_plL l
    have : (D.lst (l.map .int)).dep = D.depL (l.map .int) + 1 := rfl
    unfold D.shp
    rw [Bool.and_eq_true, decide_eq_true_eq]
    exact ⟨h4, by omega⟩
  unfold eqD
  rw [h1]
  have h2 : ∀ l : List Int, D.eqvL (l.map .int) (l.map .int) = true := fun l => by
    induction l with
    | nil => rfl
    | cons i l ih => rw [List.map_cons, D.eqvL, ih, int_eqv]; simp
  have h3 : (D.lst (l.map .int)).eqv (.lst (l.map .int)) = true := by
    rw [D.eqv]; exact h2 l
  rw [h3]
  rfl
/-! the fewest quarrels -/
theorem IsLeast.eq {k : Kd} {l : List (Int × Int)} {m : Nat} {A B : List (Int × Int)} (h : IsLeast k l m A) (h' : IsLeast k l m B) : quar k A = quar k B :=
  Nat.le_antisymm (h.2.2 B h'.1 h'.2.1) (h'.2.2 A h.1 h.2.1)
open Classical in
noncomputable def lq (k : Kd) (l : List (Int × Int)) (m : Nat) : Nat := if h : ∃ B, IsLeast k l m B then quar k (Classical.choose h) else 0
theorem lq_eq {k : Kd} {l : List (Int × Int)} {m : Nat} {B : List (Int × Int)} (h : IsLeast k l m B) : quar k B = lq k l m := by
  unfold lq
  rw [dif_pos ⟨B, h⟩]
  exact h.eq (Classical.choose_spec ⟨B, h⟩)
theorem quar_dropLast (k : Kd) (l : List (Int × Int)) : quar k l.dropLast ≤ quar k l := by
  rcases List.eq_nil_or_concat l with rfl | ⟨l', x, rfl⟩
  · exact Nat.le_refl _
  · rw [List.concat_eq_append, List.dropLast_concat]
    exact quar_app k l' [x]
theorem lq_mono {k : Kd} {l : List (Int × Int)} {m : Nat} {A B : List (Int × Int)} (h : IsLeast k l m A) (h' : IsLeast k l (m + 1) B) : lq k l m ≤ lq k l (m + 1) := by
  rw [← lq_eq h, ← lq_eq h']
  refine Nat.le_trans (h.2.2 B.dropLast ((List.dropLast_sublist B).trans h'.1) ?_) (quar_dropLast k B)
  rw [List.length_dropLast, h'.2.1]
  rfl
theorem lq_ex (k : Kd) (l : List (Int × Int)) (hl : l.length ≤ 16) (m : Nat) (hm : m ≤ l.length) : ∃ B, IsLeast k l m B := by
  obtain ⟨d, s', _, hB⟩ := wpR_ex (r_calmest_in 0 k l hl m hm ⟨[], []⟩ (Q := fun _ _ => ∃ B, IsLeast k l m B) fun B hB => ⟨B, hB⟩)
  exact hB
def tolds (k : Kd) (l : List (Int × Int)) (g : Nat → Nat) : List Int := (rng (l.length + 1)).map fun i => ((2 * g i.toNat : Nat) : Int)
theorem tolds_up {k : Kd} {l : List (Int × Int)} (hl : l.length ≤ 16) : (tolds k l (lq k l)).Pairwise (· ≤ ·) := by
  have step : ∀ m n, m ≤ n → n ≤ l.length → lq k l m ≤ lq k l n := by
    intro m n hmn
    induction hmn with
    | refl => exact fun _ => Nat.le_refl _
    | step hmn ih =>
      intro hn
      rename_i n
      obtain ⟨A, hA⟩ := lq_ex k l hl n (by omega)
      obtain ⟨B, hB⟩ := lq_ex k l hl (n + 1) hn
      exact Nat.le_trans (ih (by omega)) (lq_mono hA hB)
  unfold tolds
  rw [List.pairwise_map]
  refine (rng_lt (l.length + 1)).imp_of_mem fun {a b} ha hb hab => ?_
  obtain ⟨h1, h2⟩ := rng_mem.mp ha
  obtain ⟨h3, h4⟩ := rng_mem.mp hb
  have := step a.toNat b.toNat (by omega) (by omega)
  omega
section
variable {R C' : Nat} {f : Int → Int → Bool} (h : BdOk R C') {k : Kd} (hk : KdOk k) (hf : (sqs R C' f).length ≤ 16)
include h hk hf
theorem k_fewest (n : Nat) (m : Nat) (hm : m ≤ (sqs R C' f).length) (s : S) : C (n+6) n_fewest_quarrels [bd R C' f, kd k, .int m] s = .ok (.int (2 * lq k (sqs R C' f) m : Nat)) s := by
  apply eq_of_wpR
  exact r_fewest h n hk hf m hm fun B hB => by rw [lq_eq hB]; exact ⟨rfl, rfl⟩
theorem k_apart (n : Nat) {l : List (Int × Int)} (hs : l.Pairwise sqLt) (hp : ∀ p ∈ l, p ∈ sqs R C' f) (hl : l.length ≤ 16777216) (s : S) : C (n+7) n_do_stand_apart [bd R C' f, kd k, .tup (l.map sq)] s = .ok (.bl (decide (quar k l = 0))) s := by
  rw [k_do_stand_apart n h hk hs hp hl, apart_eq]
end
end Law

set_option maxRecDepth 100000
namespace Law
open PySem Pv Pw
theorem like_ints (n : Nat) (l : List Int) (hl : l.length ≤ 16777216) (s : S) : C (n+3) n__law_like [.lst (l.map .int), .lst (l.map .int)] s = .ok (.bl true) s := by
  have ho : okk (.lst (l.map .int)) = true := by
    rw [okk, Bool.and_eq_true, decide_eq_true_iff, List.length_map]
    refine ⟨hl, ?_⟩
    clear hl
    induction l with
    | nil => rfl
    | cons i l ih => rw [List.map_cons, okkL, ih]; rfl
  have hd : (D.lst (l.map .int)).dep ≤ 1 := by
    have := (ints_plL l).2
    have e : (D.lst (l.map .int)).dep = D.depL (l.map .int) + 1 := rfl
    omega
  exact k_like 1 n _ ho hd s
@[simp] theorem x_slot_dget (i : Nat) (k x : IE) : IE.slot? (.dget i k x) = none := id rfl
theorem rng_up (n : Nat) (h : n + 1 ≤ 16777216) (s : S) : rng1M (.int ((n : Int) + 1)) s = .ok ((rng (n + 1)).map .int) s := by
  obtain ⟨sl, sh⟩ := s
  exact rng1_nat (n + 1) h sl sh
/-- what the dict holds after some lots -/
def Led (k : Kd) (p : List (List (Int × Int))) (g : Int → Option Int) : Prop := (∀ i v, g i = some v → ∃ X ∈ p, (X.length : Int) = i ∧ v = (2 * quar k X : Nat)) ∧ ∀ X ∈ p, ∃ v, g X.length = some v ∧ v ≤ (2 * quar k X : Nat)
theorem Led.nil (k : Kd) : Led k [] fun _ => none := ⟨fun i v h => (by cases h), fun X h => (by cases h)⟩
def newV (k : Kd) (g : Int → Option Int) (A : List (Int × Int)) : Int :=
  let own : Int := (2 * quar k A : Nat)
  if (g A.length).getD own < own then (g A.length).getD own else own
theorem Led.step {k : Kd} {p : List (List (Int × Int))} {g : Int → Option Int} (h : Led k p g) (A : List (Int × Int)) : Led k (p ++ [A]) fun i => if i = (A.length : Int) then some (newV k g A) else g i := by
  have hle : newV k g A ≤ (2 * quar k A : Nat) := by unfold newV; simp only []; split <;> omega
  refine ⟨fun i v hv => ?_, fun X hX => ?_⟩
  · by_cases hi : i = (A.length : Int)
    · subst hi
      simp only [if_pos] at hv
      cases hv
      unfold newV
      simp only []
      cases hg : g A.length with
      | none =>
        exact ⟨A, by simp, rfl, by simp⟩
      | some w =>
        obtain ⟨X, hX, hl, hv⟩ := h.1 _ _ hg
        simp only [Option.getD_some]
        split
        · exact ⟨X, by simp [hX], hl, hv⟩
        · exact ⟨A, by simp, rfl, rfl⟩
    · simp only [if_neg hi] at hv
      obtain ⟨X, hX, hl, hv⟩ := h.1 _ _ hv
      exact ⟨X, by simp [hX], hl, hv⟩
  · by_cases hi : (X.length : Int) = (A.length : Int)
    · refine ⟨newV k g A, by simp [hi], ?_⟩
      rcases List.mem_append.mp hX with hX | hX
      · obtain ⟨v, hv, hle2⟩ := h.2 X hX
        rw [hi] at hv
        unfold newV
        simp only [hv, Option.getD_some]
        split <;> omega
      · rw [List.mem_singleton.mp hX]
        exact hle
    · rcases List.mem_append.mp hX with hX | hX
      · obtain ⟨v, hv, hle2⟩ := h.2 X hX
        exact ⟨v, by simp [hi, hv], hle2⟩
      · rw [List.mem_singleton.mp hX] at hi
        exact absurd rfl hi
theorem Led.all {k : Kd} {l : List (Int × Int)} {g : Int → Option Int} (h : Led k (lots l) g) (m : Nat) (hm : m ≤ l.length) : g m = some ((2 * lq k l m : Nat) : Int) := by
  obtain ⟨v, hv, _⟩ := h.2 (l.take m) ((mem_lots l _).mpr (List.take_sublist _ _))
  rw [List.length_take, Nat.min_eq_left hm] at hv
  obtain ⟨X, hX, hl, e⟩ := h.1 _ _ hv
  have hXs := (mem_lots l X).mp hX
  have hXl : X.length = m := by omega
  have hL : IsLeast k l m X := by
    refine ⟨hXs, hXl, fun Y hY hYl => ?_⟩
    obtain ⟨w, hw, hle⟩ := h.2 Y ((mem_lots l Y).mpr hY)
    rw [hYl, hv] at hw
    cases hw
    omega
  rw [hv, e, lq_eq hL]
theorem r_calm_right (n : Nat) {R C' : Nat} {f : Int → Int → Bool} (h : BdOk R C') {k : Kd} (hk : KdOk k) (hf : (sqs R C' f).length ≤ 16) (s : S) : C (n+10) n__law_calm_right [bd R C' f, kd k] s = .ok (.bl true) s := by
  apply eq_of_wpR
  rw [u__law_calm_right]
  have hf2 : (sqs R C' f).length + 1 ≤ 16777216 := by omega
  simp [b__law_calm_right, k_law_squares, k_law_lots, h, hf]
  refine for_rule (fun (p : List (List (Int × Int))) (t : S) => ∃ (kvs : List (D × D)) (g : Int → Option Int) (a b : Sl), (kvs.length ≤ p.length ∧ IDict kvs g ∧ Led k p g) ∧ t = ⟨[.fz (bd R C' f), .fz (kd k), a, .un, .un, .fz (.lst ((sqs R C' f).map sq)), .ow (dct false kvs), b, .un], s.sh⟩) ⟨[], fun _ => none, .un, .un, ⟨Nat.zero_le _, IDict.nil, Led.nil k⟩, rfl⟩ ?_ ?_
  · rintro p A q _ hp ⟨kvs, g, a, b, ⟨hlen, hd, hg⟩, rfl⟩
    have hA : A.Sublist (sqs R C' f) := (mem_lots _ A).mp (by rw [← hp]; simp)
    have hAl : A.length ≤ 16777216 := by have := hA.length_le; omega
    have hpl : kvs.length < 16777216 := by
      have h1 := congrArg List.length hp
      rw [lots_len, List.length_append, List.length_cons] at h1
      have h2 := Nat.pow_le_pow_right (n := 2) (by decide) hf
      have h3 : 2 ^ 16 = 65536 := by decide
      omega
    have hq : ∀ s, C (n+9) n__law_quarrels [kd k, .tup (A.map sq)] s = .ok (.int (2 * quar k A : Nat)) s := fun s => k_law_quarrels (n+7) k A hAl s
    simp [hq, hd.look, hpl]
    have e : (if (g A.length).getD (2 * (quar k A : Int)) < 2 * (quar k A : Int) then (g A.length).getD (2 * (quar k A : Int)) else 2 * (quar k A : Int)) = newV k g A := by
      unfold newV; simp
    rw [e]
    exact ⟨Nat.le_trans (put_len _ _ _) (by omega), _, hd.put _ _, hg.step A⟩
  · rintro t ⟨kvs, g, a, b, ⟨hlen, hd, hg⟩, rfl⟩
    simp [rng_up _ hf2]
    have hT : ((rng ((sqs R C' f).length + 1)).map fun i => D.int ((2 * lq k (sqs R C' f) i.toNat : Nat) : Int)) = (tolds k (sqs R C' f) (lq k (sqs R C' f))).map .int := by
      unfold tolds; rw [List.map_map]; rfl
    have hTl : (tolds k (sqs R C' f) (lq k (sqs R C' f))).length = (sqs R C' f).length + 1 := by unfold tolds; simp
    have hat : ∀ m : Nat, m ≤ (sqs R C' f).length → ∀ sh, idxD sh (.lst ((tolds k (sqs R C' f) (lq k (sqs R C' f))).map .int)) (.int m) = some (.int ((2 * lq k (sqs R C' f) m : Nat) : Int)) := fun m hm sh => by
      show atD _ (m : Int) = _
      rw [← hT, atD_rng (by omega) (by omega)]
      rfl
    have hlen2 : (rng ((sqs R C' f).length + 1)).length ≤ sizeLine := by rw [rng_len, sz_line]; omega
    rw [comp_map (g := fun i => .int ((2 * lq k (sqs R C' f) i.toNat : Nat) : Int)) (by rfl) hlen2 (fun i hi => ?_)]
    rotate_left
    · obtain ⟨h0, h1⟩ := rng_mem.mp hi
      obtain ⟨m, rfl⟩ : ∃ m : Nat, i = m := ⟨i.toNat, by omega⟩
      have e : ∀ s, C (n+9) n_fewest_quarrels [bd R C' f, kd k, .int m] s = .ok (.int (2 * lq k (sqs R C' f) m : Nat)) s := fun s => k_fewest h hk hf (n+3) m (by omega) s
      simp [e]
    rw [hT]
    simp [rng_up _ hf2]
    rw [comp_map (g := fun i => .int ((2 * lq k (sqs R C' f) i.toNat : Nat) : Int)) (by rfl) hlen2 (fun i hi => ?_)]
    rotate_left
    · obtain ⟨h0, h1⟩ := rng_mem.mp hi
      obtain ⟨m, rfl⟩ : ∃ m : Nat, i = m := ⟨i.toNat, by omega⟩
      simp [hd.look, hg.all m (by omega)]
    rw [hT]
    have e1 : ∀ s, C (n+9) n__law_like [.lst ((tolds k (sqs R C' f) (lq k (sqs R C' f))).map .int), .lst ((tolds k (sqs R C' f) (lq k (sqs R C' f))).map .int)] s = .ok (.bl true) s := fun s => like_ints (n+6) _ (by rw [hTl]; omega) s
    have e2 := sorted_ints (tolds_up (k := k) hf) (by rw [hTl, sz_line]; omega)
    simp [e1, e2, eq_ints, rng_up _ hf2]
    refine for_each (fun t => ∃ c e, t = ⟨[.fz (bd R C' f), .fz (kd k), a, .fz (.lst ((tolds k (sqs R C' f) (lq k (sqs R C' f))).map .int)), c, .fz (.lst ((sqs R C' f).map sq)), .ow (dct false kvs), b, e], s.sh⟩) ⟨.un, .un, rfl⟩ ?_ ?_
    · rintro i hi _ ⟨c, e, rfl⟩
      obtain ⟨h0, h1⟩ := rng_mem.mp hi
      obtain ⟨m, rfl⟩ : ∃ m : Nat, i = m := ⟨i.toNat, by omega⟩
      simp
      refine r_calmest h (n+3) hk hf m (by omega) fun B hB => ?_
      have hB1 := hB.1
      have hBl := hB.1.length_le
      have hs := sub_sorted hB1 (sqs_sorted R C' f)
      have ht : tny 40 (.tup (B.map sq)) = true := tny_sqs (by decide) (by omega)
      have hA : isArmy (sqs R C' f) (.tup (B.map sq)) = true := isArmy_iff.mpr ⟨B, rfl, fun p hp => hB1.subset hp, hs⟩
      have f1 : ∀ s, C (n+9) n__law_is_army [bd R C' f, .tup (B.map sq)] s = .ok (.bl true) s := fun s => by
        have := k_law_is_army (n+6) h (f := f) (.tup (B.map sq)) ht (Nat.le_trans (dep_sqs B) (by decide)) s
        rw [this, hA]
      have f2 : ∀ s, C (n+9) n__law_quarrels [kd k, .tup (B.map sq)] s = .ok (.int (2 * lq k (sqs R C' f) m : Nat)) s := fun s => by
        have := k_law_quarrels (n+7) k B (by omega) s
        rw [this, lq_eq hB]
      have f3 : ∀ s, C (n+9) n_are_placed [bd R C' f, .tup (B.map sq)] s = .ok (.bl true) s := fun s => by
        have := k_are_placed h (f := f) (n+3) (.tup (B.map sq)) ht s
        rw [this, hA]
      have f4 : ∀ s, C (n+9) n_do_stand_apart [bd R C' f, kd k, .tup (B.map sq)] s = .ok (.bl (decide (lq k (sqs R C' f) m = 0))) s := fun s => by
        have := k_apart h hk hf (n+2) hs (fun p hp => hB1.subset hp) (by omega) s
        rw [this, lq_eq hB]
      have hm := hB.2.1
      have f5 := hat m (by omega)
      simp at f5 f2
      simp [f1, f2, f3, f4, f5, hm, isD]
      omega
    · rintro _ ⟨c, e, rfl⟩
      simp
end Law

set_option maxRecDepth 100000
namespace Law
open PySem Pv Pw
theorem for_eachD {f : D → M Fl} (I : S → Prop) {Q : Fl → S → Prop} {xs : List D} {s : S} (h : I s)
    (ht : ∀ x ∈ xs, ∀ s, I s → wpR (f x s) (flQ I Q)) (he : ∀ s, I s → Q .nx s) : wpR (forL f xs s) Q := by
  have := for_each (f := f) (enc := fun x : D => x) (xs := xs) I h ht he
  rwa [List.map_id'] at this
theorem like_bl (n : Nat) (b : Bool) (s : S) : C (n+2) n__law_like [.bl b, .bl b] s = .ok (.bl true) s := k_like 0 n (.bl b) rfl (Nat.le_refl 0) s
theorem noCl_symm (k1 k2 : Kd) (l m : List (Int × Int)) : noCl k1 k2 l m = noCl k2 k1 m l := by
  unfold noCl
  rw [Bool.eq_iff_iff, List.all_eq_true, List.all_eq_true]
  constructor
  · intro h q hq
    rw [List.all_eq_true]
    intro p hp
    rw [clash_symm]
    exact List.all_eq_true.mp (h p hp) q hq
  · intro h p hp
    rw [List.all_eq_true]
    intro q hq
    rw [clash_symm]
    exact List.all_eq_true.mp (h q hq) p hp
theorem Inv.armies {k1 k2 : Kd} {l b0 b1 : List (Int × Int)} (h : Inv k1 k2 l [] b0 b1) (hs : l.Pairwise sqLt) : isArmies l k1 k2 (.tup [.tup (b0.map sq), .tup (b1.map sq)]) = true ∧ isArmies l k2 k1 (.tup [.tup (b1.map sq), .tup (b0.map sq)]) = true ∧ b0.length ≤ l.length ∧ b1.length ≤ l.length := by
  have h1 : b1.Sublist l := h.s1.trans List.filter_sublist
  have a0 : isArmy l (.tup (b0.map sq)) = true := isArmy_iff.mpr ⟨b0, rfl, fun p hp => h.s0.subset hp, sub_sorted h.s0 hs⟩
  have a1 : isArmy l (.tup (b1.map sq)) = true := isArmy_iff.mpr ⟨b1, rfl, fun p hp => h1.subset hp, sub_sorted h1 hs⟩
  have hn : noCl k1 k2 b0 b1 = true := by
    unfold noCl
    rw [List.all_eq_true]
    intro p hp
    rw [List.all_eq_true]
    intro q hq
    rw [(mem_foes.mp (h.s1.subset hq)).2 p hp]
    rfl
  refine ⟨?_, ?_, h.s0.length_le, h1.length_le⟩
  · rw [isArmies_2, a0, a1, hn]; rfl
  · rw [isArmies_2, a0, a1, noCl_symm, hn]; rfl
/-- small and plain -/
def T (d : D) : Prop := tny 40 d = true ∧ d.dep ≤ 20
theorem T.two {x y : D} (hx : tny 40 x = true ∧ x.dep ≤ 2) (hy : tny 40 y = true ∧ y.dep ≤ 2) : T (.tup [x, y]) := ⟨tny_two (by decide) hx.1 hy.1, Nat.le_trans (dep_two hx.2 hy.2) (by decide)⟩
theorem cut_sub {α : Type} (xs : List α) (lo hi : Option Int) : (cutD xs lo hi).Sublist xs := by
  unfold cutD
  exact (List.take_sublist _ _).trans (List.drop_sublist _ _)
def Sm (d : D) : Prop := tny 40 d = true ∧ d.dep ≤ 2
theorem Sm.of {ds : List D} (h : ds.length ≤ 40) (hd : ∀ d ∈ ds, ∃ p, d = sq p) : Sm (.tup ds) := by
  refine ⟨tny_tup.mpr ⟨h, fun d hh => ?_⟩, dep_tup.mpr fun d hh => ?_⟩
  · obtain ⟨p, rfl⟩ := hd d hh; exact tny_sq 40 (by decide) p
  · obtain ⟨p, rfl⟩ := hd d hh; exact Nat.le_refl 1
theorem sqs_is (l : List (Int × Int)) : ∀ d ∈ l.map sq, ∃ p, d = sq p := fun d hd => by
  obtain ⟨p, _, rfl⟩ := List.mem_map.mp hd
  exact ⟨p, rfl⟩
section
variable {R C' : Nat} {f : Int → Int → Bool} (h : BdOk R C') {k1 k2 : Kd} (hk1 : KdOk k1) (hk2 : KdOk k2) (hf : (sqs R C' f).length ≤ 16)
include h hk1 hk2 hf
theorem r_armies_right (n : Nat) {sh : List D} (hc : Cup sh) {sl : List Sl} {Q : D → S → Prop} (hQ : ∀ sh', Cup sh' → Q (.bl true) ⟨sl, sh'⟩) : wpR (C (n+10) n__law_armies_right [.ref 0, bd R C' f, kd k1, kd k2] ⟨sl, sh⟩) Q := by
  rw [u__law_armies_right]
  simp [b__law_armies_right]
  refine r_armies h (n+3) hk1 hk2 hf fun b0 b1 hi => ?_
  simp
  refine r_most h (n+3) hk1 hk2 hf fun M hM => ?_
  obtain rfl := hM.eq hi.most
  obtain ⟨ha1, ha2, hl0, hl1⟩ := hi.armies (sqs_sorted R C' f)
  have s0 : Sm (.tup (b0.map sq)) := Sm.of (by simp; omega) (sqs_is b0)
  have s1 : Sm (.tup (b1.map sq)) := Sm.of (by simp; omega) (sqs_is b1)
  have t0 : T (.tup [.tup (b0.map sq), .tup (b1.map sq)]) := T.two s0 s1
  have t1 : T (.tup [.tup (b1.map sq), .tup (b0.map sq)]) := T.two s1 s0
  have f1 : ∀ s, C (n+9) n__law_are_armies [bd R C' f, kd k1, kd k2, .tup [.tup (b0.map sq), .tup (b1.map sq)]] s = .ok (.bl true) s := fun s => by
    have := k_law_are_armies (n+5) h (f := f) k1 k2 _ t0.1 (Nat.le_trans t0.2 (by decide)) s
    rw [this, ha1]
  have f2 : ∀ s, C (n+9) n_are_armies [bd R C' f, kd k2, kd k1, .tup [.tup (b1.map sq), .tup (b0.map sq)]] s = .ok (.bl true) s := fun s => by
    have := k_are_armies h (f := f) (n+2) hk2 hk1 _ t1.1 s
    rw [this, ha2]
  have hbl := hi.len
  simp [best, f1, ← hbl]
  refine r_law_most (n+4) h k1 k2 hf fun M' hM' => ?_
  obtain rfl := hM'.eq hi.most
  have f3 : ∀ s, C (n+9) n__law_like [.lst [.int b0.length, .int b0.length, .int b0.length], .lst [.int b0.length, .int b0.length, .int b0.length]] s = .ok (.bl true) s := fun s => like_ints (n+6) [b0.length, b0.length, b0.length] (by simp) s
  simp [f3]
  refine r_most h (n+3) hk2 hk1 hf fun M2 hM2 => ?_
  obtain rfl := hM2.eq hi.most.symm
  have f4 : ∀ s, C (n+9) n__law_squares [bd R C' f] s = .ok (.lst ((sqs R C' f).map sq)) s := fun s => k_law_squares (n+8) h s
  simp [f2, isD, f4]
  refine comp_inv (J := Cup) (G := fun d o => o = none ∨ o = some d) (by rfl) (by rw [List.length_map, sz_line]; omega) hc (fun d hd sh1 hc1 => ?_) (fun os sh1 hc1 hl1 hg1 => ?_)
  · simp
    refine r_roll (n+8) hc1 _ (by omega) (by omega) fun r sh2 g0 g1 hc2 => ?_
    simp
    exact hc2
  obtain ⟨d0, hd0, e0⟩ := sub_of_opts (by simpa using hl1) hg1
  rw [e0]
  simp
  refine comp_inv (J := Cup) (G := fun d o => o = none ∨ o = some d) (by rfl) (by rw [List.length_map, sz_line]; omega) hc1 (fun d hd sh1 hc1 => ?_) (fun os sh2 hc2 hl2 hg2 => ?_)
  · simp
    refine r_roll (n+8) hc1 _ (by omega) (by omega) fun r sh2 g0 g1 hc2 => ?_
    simp
    exact hc2
  obtain ⟨d1, hd1, e1⟩ := sub_of_opts (by simpa using hl2) hg2
  rw [e1]
  have hadd : binD .Add (.tup (b0.map sq)) (.tup (cutD (b0.map sq) (some (-1)) none)) = some (.tup (b0.map sq ++ cutD (b0.map sq) (some (-1)) none)) := b_addt _ _ (by have := (cut_sub (b0.map sq) (some (-1)) none).length_le; rw [List.length_map] at *; rw [sz_line]; omega)
  simp [hadd]
  rw [rng1_int 4 (by decide) (by decide)]
  simp
  have t0' : tny 39 (.tup [.tup (b0.map sq), .tup (b1.map sq)]) = true := tny_two (by decide) (tny_sqs (by decide) (by omega)) (tny_sqs (by decide) (by omega))
  have d0' : (D.tup [.tup (b0.map sq), .tup (b1.map sq)]).dep ≤ 3 := dep_two (dep_sqs b0) (dep_sqs b1)
  refine comp_inv (J := Cup) (G := fun d o => ∃ x, o = some x ∧ T x) (by rfl) (by rw [List.length_map, rng_len, sz_line]; decide) hc2 (fun d hd sh3 hc3 => ?_) (fun os sh3 hc3 hl3 hg3 => ?_)
  · obtain ⟨i, _, rfl⟩ := List.mem_map.mp hd
    simp
    refine r_bent 39 (by decide) (by decide) 3 (n+3) _ t0' d0' (by decide) hc3 fun d' sh' h1 h2 hc' => ?_
    simp
    exact ⟨⟨h1, Nat.le_trans h2 (by decide)⟩, hc'⟩
  have hxs : (os.filterMap id).length ≤ 4 := Nat.le_trans (List.length_filterMap_le _ _) (by rw [hl3]; simp)
  have hT : ∀ x ∈ os.filterMap id, T x := fun x hx => by
    obtain ⟨o, ho, e⟩ := List.mem_filterMap.mp hx
    obtain ⟨i, hi⟩ := List.getElem?_of_mem ho
    have hi1 : i < os.length := (List.getElem?_eq_some_iff.mp hi).1
    have hi2 : i < ((rng 4).map D.int).length := by omega
    have hm : (((rng 4).map D.int)[i]'hi2, o) ∈ ((rng 4).map D.int).zip os := by
      refine List.mem_of_getElem? (i := i) ?_
      rw [List.getElem?_zip_eq_some]
      exact ⟨List.getElem?_eq_getElem hi2, hi⟩
    obtain ⟨y, hy, hTy⟩ := hg3 _ hm
    have : o = some x := e
    have hy : o = some y := hy
    rw [this] at hy
    cases hy
    exact hTy
  generalize os.filterMap id = xs at hxs hT
  have hadd2 : ∃ zs, binD .Add (.lst [.tup [.tup (b0.map sq), .tup (b1.map sq)], .tup [.tup (b1.map sq), .tup (b0.map sq)], .tup [.tup (d0.map sq), .tup (d1.map sq)], .tup [.tup (b0.map sq).tail, .tup (b1.map sq)], .tup [.tup (b0.map sq), .tup (d1.map sq)], .tup [.tup ((sqs R C' f).map sq), .tup []], .tup [.tup [], .tup ((sqs R C' f).map sq)], .tup [.tup ((sqs R C' f).map sq), .tup ((sqs R C' f).map sq)], .lst [.tup (b0.map sq), .tup (b1.map sq)], .tup [.tup (b0.map sq)], .non, .tup [.tup [], .tup []], .tup [.tup (b0.map sq).reverse, .tup (b1.map sq)], .tup [.tup (b0.map sq ++ cutD (b0.map sq) (some (-1)) none), .tup (b1.map sq)]]) (.lst xs) = some (.lst zs) ∧ ∀ z ∈ zs, T z := by
    refine ⟨_, b_addl _ _ (by rw [sz_line]; simp only [List.length_cons, List.length_nil]; omega), fun z hz => ?_⟩
    rcases List.mem_append.mp hz with hz | hz
    · have hd0l := hd0.length_le
      have hd1l := hd1.length_le
      have sd0 : Sm (.tup (d0.map sq)) := Sm.of (by simp; omega) (sqs_is d0)
      have sd1 : Sm (.tup (d1.map sq)) := Sm.of (by simp; omega) (sqs_is d1)
      have sS : Sm (.tup ((sqs R C' f).map sq)) := Sm.of (by simp; omega) (sqs_is _)
      have sn : Sm (.tup []) := ⟨rfl, by decide⟩
      have st : Sm (.tup (b0.map sq).tail) := Sm.of (by simp; omega) (fun d hd => sqs_is b0 d (List.mem_of_mem_tail hd))
      have sr : Sm (.tup (b0.map sq).reverse) := Sm.of (by simp; omega) (fun d hd => sqs_is b0 d (List.mem_reverse.mp hd))
      have sc : Sm (.tup (b0.map sq ++ cutD (b0.map sq) (some (-1)) none)) := Sm.of (by have := (cut_sub (b0.map sq) (some (-1)) none).length_le; rw [List.length_append]; rw [List.length_map] at *; omega) (fun d hd => by
        rcases List.mem_append.mp hd with hd | hd
        · exact sqs_is b0 d hd
        · exact sqs_is b0 d ((cut_sub _ _ _).subset hd))
      simp only [List.mem_cons, List.not_mem_nil, or_false] at hz
      rcases hz with rfl | rfl | rfl | rfl | rfl | rfl | rfl | rfl | rfl | rfl | rfl | rfl | rfl | rfl
      · exact T.two s0 s1
      · exact T.two s1 s0
      · exact T.two sd0 sd1
      · exact T.two st s1
      · exact T.two s0 sd1
      · exact T.two sS sn
      · exact T.two sn sS
      · exact T.two sS sS
      · exact ⟨(T.two s0 s1).1, (T.two s0 s1).2⟩
      · refine ⟨tny_tup.mpr ⟨by simp, fun d hd => ?_⟩, Nat.le_trans (show _ ≤ 2 + 1 from dep_tup.mpr fun d hd => ?_) (by decide)⟩
        · rw [List.mem_singleton.mp hd]; exact s0.1
        · rw [List.mem_singleton.mp hd]; exact s0.2
      · exact ⟨rfl, by decide⟩
      · exact T.two sn sn
      · exact T.two sr s1
      · exact T.two sc s1
    · exact hT z hz
  obtain ⟨zs, ez, hzs⟩ := hadd2
  rw [ez]
  simp
  refine for_eachD (fun t => ∃ (a e4 e5 e6 e8 e9 : Sl), t = ⟨[.fz (.ref 0), .fz (bd R C' f), .fz (kd k1), .fz (kd k2), e4, e5, e6, a, e8, e9, .un, .un], sh3⟩) ⟨_, _, _, _, _, _, rfl⟩ (fun x hx s0 => ?_) ?_
  · rintro ⟨a, e4, e5, e6, e8, e9, rfl⟩
    have g1 : ∀ s, C (n+9) n_are_armies [bd R C' f, kd k1, kd k2, x] s = .ok (.bl (isArmies (sqs R C' f) k1 k2 x)) s := fun s => k_are_armies h (f := f) (n+2) hk1 hk2 x (hzs x hx).1 s
    have g2 : ∀ s, C (n+9) n__law_are_armies [bd R C' f, kd k1, kd k2, x] s = .ok (.bl (isArmies (sqs R C' f) k1 k2 x)) s := fun s => k_law_are_armies (n+5) h (f := f) k1 k2 x (hzs x hx).1 (Nat.le_trans (hzs x hx).2 (by decide)) s
    have g3 : ∀ b s, C (n+9) n__law_like [.bl b, .bl b] s = .ok (.bl true) s := fun b s => like_bl (n+7) b s
    simp [g1, g2, g3]
  · rintro _ ⟨a, e4, e5, e6, e8, e9, rfl⟩
    simp
    exact hQ sh3 hc3
end
end Law

set_option maxRecDepth 100000
namespace Law
open PySem Pv Pw
/-! the search as a program, for ground boards -/
abbrev RIt := Nat × List (Int × Int) × List (Int × Int)
def srch (k1 k2 : Kd) : Nat → List RIt → Nat → Option Nat
  | 0, _, _ => none
  | _ + 1, [], b => some b
  | m + 1, (n, [], F) :: st, b => srch k1 k2 m st (max b (min n F.length))
  | m + 1, (n, p :: L, F) :: st, b =>
    if max b (min n F.length) < min (n + (L.length + 1)) F.length then srch k1 k2 m ((n + 1, L, F.filter fun q => !clash k1 k2 p q) :: (n, L, F) :: st) (max b (min n F.length))
    else srch k1 k2 m st (max b (min n F.length))
def toR (k1 k2 : Kd) (l : List (Int × Int)) (it : Item) : RIt := (it.1.length, it.2, foes k1 k2 l it.1)
theorem srch_sound {k1 k2 : Kd} {l : List (Int × Int)} {M : Nat} : ∀ (m : Nat) (st : List Item) (b0 b1 : List (Int × Int)), Inv k1 k2 l st.reverse b0 b1 → srch k1 k2 m (st.map (toR k1 k2 l)) b0.length = some M → IsMost k1 k2 l M
  | 0, _, _, _, _, e => by simp [srch] at e
  | m + 1, [], b0, b1, h, e => by
    have e : some b0.length = some M := e
    cases e
    exact h.most
  | m + 1, (A, L) :: st, b0, b1, h, e => by
    rw [List.reverse_cons] at h
    have hb : ∃ c0 c1, Inv k1 k2 l (st.reverse ++ [(A, L)]) c0 c1 ∧ c0.length = max b0.length (val k1 k2 l A) := by
      by_cases hv : b0.length < val k1 k2 l A
      · refine ⟨_, _, h.best hv, ?_⟩
        rw [List.length_take, Nat.max_eq_right (by omega)]
        unfold val; omega
      · exact ⟨b0, b1, h, by rw [Nat.max_eq_left (by omega)]⟩
    obtain ⟨c0, c1, h', hc⟩ := hb
    have hge : val k1 k2 l A ≤ c0.length := by omega
    cases L with
    | nil =>
      have e : srch k1 k2 m (st.map (toR k1 k2 l)) (max b0.length (val k1 k2 l A)) = some M := e
      rw [← hc] at e
      exact srch_sound m st c0 c1 (h'.drop hge (.inl rfl)) e
    | cons p L =>
      have e : (if max b0.length (val k1 k2 l A) < min (A.length + (L.length + 1)) (foes k1 k2 l A).length then srch k1 k2 m ((A.length + 1, L, (foes k1 k2 l A).filter fun q => !clash k1 k2 p q) :: (A.length, L, foes k1 k2 l A) :: st.map (toR k1 k2 l)) (max b0.length (val k1 k2 l A)) else srch k1 k2 m (st.map (toR k1 k2 l)) (max b0.length (val k1 k2 l A))) = some M := e
      rw [← hc] at e
      split at e
      · have hp := h'.push
        refine srch_sound m ((A ++ [p], L) :: (A, L) :: st) c0 c1 (by simpa using hp) ?_
        rw [← foes_snoc] at e
        simpa [toR] using e
      · rename_i hlt
        refine srch_sound m st c0 c1 (h'.drop hge (.inr ?_)) e
        rw [List.length_cons]
        omega
theorem most_of {k1 k2 : Kd} {l : List (Int × Int)} {M : Nat} (m : Nat) (h : srch k1 k2 m [(0, l, l)] 0 = some M) : IsMost k1 k2 l M := by
  refine srch_sound m [([], l)] [] [] (Inv.start k1 k2 l) ?_
  have : foes k1 k2 l [] = l := List.filter_eq_self.mpr fun q _ => rfl
  simpa [toR, this] using h
def ft : Int → Int → Bool := fun _ _ => true
def row (w : Nat) : List (Int × Int) := sqs 1 w ft
theorem m22tt : IsMost .tower .tower (sqs 2 2 ft) 1 := most_of 1000 (by decide +kernel)
theorem m22rr : IsMost .runner .runner (sqs 2 2 ft) 2 := most_of 1000 (by decide +kernel)
theorem m22rt : IsMost .runner .tower (sqs 2 2 ft) 0 := most_of 1000 (by decide +kernel)
theorem m33kk : IsMost .king .king (sqs 3 3 ft) 3 := most_of 1000 (by decide +kernel)
theorem m44qq : IsMost .queen .queen (sqs 4 4 ft) 2 := most_of 5000 (by decide +kernel)
theorem m44rr : IsMost .runner .runner (sqs 4 4 ft) 8 := most_of 5000 (by decide +kernel)
end Law

set_option maxRecDepth 100000
namespace Law
open PySem Pv Pw
theorem rowk : ∀ w : Nat, 1 ≤ w → w ≤ 16 → IsMost .king .king (sqs 1 w ft) ((w - 1) / 2) := by
  intro w h1 h2
  have h : w = 1 ∨ w = 2 ∨ w = 3 ∨ w = 4 ∨ w = 5 ∨ w = 6 ∨ w = 7 ∨ w = 8 ∨ w = 9 ∨ w = 10 ∨ w = 11 ∨ w = 12 ∨ w = 13 ∨ w = 14 ∨ w = 15 ∨ w = 16 := by omega
  rcases h with rfl | rfl | rfl | rfl | rfl | rfl | rfl | rfl | rfl | rfl | rfl | rfl | rfl | rfl | rfl | rfl
  · exact most_of 5000 (by decide +kernel)
  · exact most_of 5000 (by decide +kernel)
  · exact most_of 5000 (by decide +kernel)
  · exact most_of 5000 (by decide +kernel)
  · exact most_of 5000 (by decide +kernel)
  · exact most_of 5000 (by decide +kernel)
  · exact most_of 5000 (by decide +kernel)
  · exact most_of 5000 (by decide +kernel)
  · exact most_of 5000 (by decide +kernel)
  · exact most_of 5000 (by decide +kernel)
  · exact most_of 5000 (by decide +kernel)
  · exact most_of 5000 (by decide +kernel)
  · exact most_of 5000 (by decide +kernel)
  · exact most_of 5000 (by decide +kernel)
  · exact most_of 5000 (by decide +kernel)
  · exact most_of 5000 (by decide +kernel)
theorem rowt : ∀ w : Nat, 1 ≤ w → w ≤ 16 → IsMost .tower .king (sqs 1 w ft) 0 := by
  intro w h1 h2
  have h : w = 1 ∨ w = 2 ∨ w = 3 ∨ w = 4 ∨ w = 5 ∨ w = 6 ∨ w = 7 ∨ w = 8 ∨ w = 9 ∨ w = 10 ∨ w = 11 ∨ w = 12 ∨ w = 13 ∨ w = 14 ∨ w = 15 ∨ w = 16 := by omega
  rcases h with rfl | rfl | rfl | rfl | rfl | rfl | rfl | rfl | rfl | rfl | rfl | rfl | rfl | rfl | rfl | rfl
  · exact most_of 1000 (by decide +kernel)
  · exact most_of 1000 (by decide +kernel)
  · exact most_of 1000 (by decide +kernel)
  · exact most_of 1000 (by decide +kernel)
  · exact most_of 1000 (by decide +kernel)
  · exact most_of 1000 (by decide +kernel)
  · exact most_of 1000 (by decide +kernel)
  · exact most_of 1000 (by decide +kernel)
  · exact most_of 1000 (by decide +kernel)
  · exact most_of 1000 (by decide +kernel)
  · exact most_of 1000 (by decide +kernel)
  · exact most_of 1000 (by decide +kernel)
  · exact most_of 1000 (by decide +kernel)
  · exact most_of 1000 (by decide +kernel)
  · exact most_of 1000 (by decide +kernel)
  · exact most_of 1000 (by decide +kernel)
/-- runners on one row never take -/
theorem runner_row {w : Nat} {p q : Int × Int} (hp : p ∈ sqs 1 w ft) (hq : q ∈ sqs 1 w ft) : clash .runner .runner p q = decide (p = q) := by
  obtain ⟨⟨a1, a2, _, _⟩, _⟩ := sqs_mem.mp hp
  obtain ⟨⟨b1, b2, _, _⟩, _⟩ := sqs_mem.mp hq
  have e : p.1 = q.1 := by omega
  have t : ∀ p q : Int × Int, p.1 = q.1 → tak .runner p q = false := fun p q e => by
    have h1 : iabs (p.1 - q.1) = 0 := by unfold iabs; split <;> omega
    unfold tak
    rw [h1]
    simp only []
    split
    · rfl
    · rename_i h
      rw [decide_eq_false_iff_not]
      exact fun h2 => h ⟨trivial, h2.symm⟩
  unfold clash
  rw [t p q e, t q p e.symm]
  simp
theorem row_len (w : Nat) : (sqs 1 w ft).length = w := by
  show ((rng 1).flatMap fun r => ((rng w).filter fun c => ft r c).map fun c => (r, c)).length = w
  have : ((rng w).filter fun c => ft 0 c) = rng w := List.filter_eq_self.mpr fun _ _ => rfl
  show ((((rng w).filter fun c => ft 0 c).map fun c => ((0 : Int), c)) ++ []).length = w
  rw [this]
  simp
theorem foes_row {w : Nat} {X : List (Int × Int)} (hX : X.Sublist (sqs 1 w ft)) : (foes .runner .runner (sqs 1 w ft) X).length + X.length = w := by
  have hn : (sqs 1 w ft).Nodup := asc_nodup (sqs_sorted _ _ _)
  have e1 : foes .runner .runner (sqs 1 w ft) X = (sqs 1 w ft).filter fun q => !decide (q ∈ X) := by
    unfold foes
    refine List.filter_congr fun q hq => ?_
    rw [Bool.eq_iff_iff, List.all_eq_true, Bool.not_eq_true', decide_eq_false_iff_not]
    constructor
    · intro h hqX
      have := h q hqX
      rw [runner_row hq hq] at this
      simp at this
    · intro h p hp
      rw [runner_row (hX.subset hp) hq]
      have : ¬ p = q := fun e => h (e ▸ hp)
      simp [this]
  have e2 : ((sqs 1 w ft).filter fun q => decide (q ∈ X)) = X := by
    refine asc_ext ((sqs_sorted 1 w ft).filter _) (sub_sorted hX (sqs_sorted _ _ _)) fun q => ?_
    rw [List.mem_filter, decide_eq_true_iff]
    exact ⟨fun h => h.2, fun h => ⟨hX.subset h, h⟩⟩
  have e3 : ∀ l : List (Int × Int), (l.filter fun q => !decide (q ∈ X)).length + (l.filter fun q => decide (q ∈ X)).length = l.length := by
    intro l
    induction l with
    | nil => rfl
    | cons a l ih =>
      rw [List.filter_cons, List.filter_cons]
      by_cases h : a ∈ X
      · simp only [h, decide_true, Bool.not_true, Bool.false_eq_true, if_false, if_true, List.length_cons]; omega
      · simp only [h, decide_false, Bool.not_false, Bool.false_eq_true, if_false, if_true, List.length_cons]; omega
  have := e3 (sqs 1 w ft)
  rw [e2, row_len] at this
  rw [e1]
  exact this
theorem rowr (w : Nat) : IsMost .runner .runner (sqs 1 w ft) (w / 2) := by
  refine ⟨fun X hX => ?_, (sqs 1 w ft).take (w / 2), List.take_sublist _ _, ?_⟩
  · have := foes_row hX
    unfold val; omega
  · have := foes_row (List.take_sublist (w / 2) (sqs 1 w ft))
    unfold val
    rw [List.length_take, row_len] at *
    omega
/-! quarrels -/
theorem lq_is {k : Kd} {l : List (Int × Int)} {m v : Nat} (B : List (Int × Int)) (h : IsLeast k l m B) (hv : quar k B = v) : lq k l m = v := by rw [← lq_eq h, hv]
theorem least_of {k : Kd} {l : List (Int × Int)} {m : Nat} {B : List (Int × Int)} (hB : B ∈ lots l) (hm : B.length = m) (h : ((lots l).all fun X => !decide (X.length = m) || decide (quar k B ≤ quar k X)) = true) : IsLeast k l m B := by
  refine ⟨(mem_lots l B).mp hB, hm, fun X hX hXm => ?_⟩
  have := List.all_eq_true.mp h X ((mem_lots l X).mpr hX)
  simpa [hXm] using this
theorem least_0 {k : Kd} {l : List (Int × Int)} {m : Nat} {B : List (Int × Int)} (hB : B.Sublist l) (hm : B.length = m) (h : quar k B = 0) : IsLeast k l m B :=
  ⟨hB, hm, fun X _ _ => by omega⟩
theorem q1 : lq .tower (sqs 2 2 ft) 2 = 0 := lq_is [(0, 0), (1, 1)] (least_of (by decide +kernel) rfl (by decide +kernel)) (by decide +kernel)
theorem q2' : lq .tower (sqs 2 2 ft) 3 = 2 := lq_is [(0, 0), (0, 1), (1, 0)] (least_of (by decide +kernel) rfl (by decide +kernel)) (by decide +kernel)
theorem q3 : lq .queen (sqs 2 2 ft) 2 = 1 := lq_is [(0, 0), (0, 1)] (least_of (by decide +kernel) rfl (by decide +kernel)) (by decide +kernel)
theorem q4 : lq .tower (sqs 3 3 ft) 4 = 2 := lq_is [(0, 0), (0, 1), (1, 2), (2, 2)] (least_of (by decide +kernel) rfl (by decide +kernel)) (by decide +kernel)
theorem q5 : lq .queen (sqs 4 4 ft) 4 = 0 := lq_is [(0, 1), (1, 3), (2, 0), (3, 2)] (least_0 (List.isSublist_iff_sublist.mp (by decide +kernel)) rfl (by decide +kernel)) (by decide +kernel)
theorem rowq (w : Nat) (h1 : 1 ≤ w) (h2 : w ≤ 16) : 2 * lq .tower (sqs 1 w ft) w = w * (w - 1) := by
  have hL : IsLeast .tower (sqs 1 w ft) w (sqs 1 w ft) := ⟨List.Sublist.refl _, row_len w, fun X hX hXm => by
    rw [hX.eq_of_length (by rw [hXm, row_len])]
    exact Nat.le_refl _⟩
  rw [← lq_eq hL]
  have h : w = 1 ∨ w = 2 ∨ w = 3 ∨ w = 4 ∨ w = 5 ∨ w = 6 ∨ w = 7 ∨ w = 8 ∨ w = 9 ∨ w = 10 ∨ w = 11 ∨ w = 12 ∨ w = 13 ∨ w = 14 ∨ w = 15 ∨ w = 16 := by omega
  rcases h with rfl | rfl | rfl | rfl | rfl | rfl | rfl | rfl | rfl | rfl | rfl | rfl | rfl | rfl | rfl | rfl <;> decide +kernel
end Law

set_option maxRecDepth 100000
namespace Law
open PySem Pv Pw
theorem like5 (n : Nat) (d : D) (h : okk d = true) (hd : d.dep ≤ 3) (s : S) : C (n+5) n__law_like [d, d] s = .ok (.bl true) s := k_like 3 n d h hd s
theorem bd_lit {R C : Nat} {f : Int → Int → Bool} {ss : List Str} (h : ss = (rng R).map fun r => ln C (f r)) : D.tup (ss.map .str) = bd R C f := by
  rw [h]; unfold bd bdl; rw [List.map_map]; rfl
theorem L1 : D.tup [.str "...", .str "...", .str "..."] = bd 3 3 ft := bd_lit (ss := ["...", "...", "..."]) (by decide +kernel)
theorem L2 : D.tup [.str "..", .str ".."] = bd 2 2 ft := bd_lit (ss := ["..", ".."]) (by decide +kernel)
theorem L4 : D.tup [.str "....", .str "....", .str "....", .str "...."] = bd 4 4 ft := bd_lit (ss := ["....", "....", "....", "...."]) (by decide +kernel)
theorem mul_four : binD .Mult (.tup [.str "...."]) (.int 4) = some (bd 4 4 ft) := by rw [← L4]; rfl
theorem ok33 : BdOk 3 3 := by unfold BdOk; decide
theorem ok22 : BdOk 2 2 := by unfold BdOk; decide
theorem ok44 : BdOk 4 4 := by unfold BdOk; decide
theorem len33 : (sqs 3 3 ft).length = 9 := by decide +kernel
theorem len22 : (sqs 2 2 ft).length = 4 := by decide +kernel
theorem len44 : (sqs 4 4 ft).length = 16 := by decide +kernel
theorem flat_rep {α : Type} (x : α) : ∀ n : Nat, (List.replicate n [x]).flatten = List.replicate n x
  | 0 => rfl
  | n + 1 => by rw [List.replicate_succ, List.flatten_cons, flat_rep x n, List.replicate_succ]; rfl
theorem rng_const {α : Type} (n : Nat) (x : α) : (rng n).map (fun _ => x) = List.replicate n x := by
  rw [List.map_const', rng_len]
theorem mul_dot (C : Nat) (h : C ≤ 16777216) : binD .Mult (.str ".") (.int (C : Int)) = some (.str (ln C fun _ => true)) := by
  have e : (".": Str).cps.toList = [46] := by decide
  show (if (idx62 (C : Int) && decide ((".": Str).length * (C : Int).toNat ≤ sizeLine)) = true then some (D.str ⟨(List.replicate (C : Int).toNat (".": Str).cps.toList).flatten.toArray⟩) else none) = _
  rw [if_pos (by rw [idx62_ok (by omega) (by omega), len_dot, sz_line]; simp; omega), e, flat_rep, Int.toNat_natCast]
  unfold ln
  rw [show ((rng C).map fun c => sg ((fun _ => true) c)) = (rng C).map (fun _ => 46) from rfl, rng_const]
theorem row_bd (w : Nat) : D.tup [.str (ln w fun _ => true)] = bd 1 w ft := rfl
theorem k_most (n : Nat) {R C' : Nat} {f : Int → Int → Bool} (h : BdOk R C') {k1 k2 : Kd} (hk1 : KdOk k1) (hk2 : KdOk k2) (hf : (sqs R C' f).length ≤ 16) {M : Nat} (hM : IsMost k1 k2 (sqs R C' f) M) (s : S) : C (n+6) n_most_armies [bd R C' f, kd k1, kd k2] s = .ok (.int M) s := by
  obtain ⟨sl, sh⟩ := s
  apply eq_of_wpR
  exact r_most h n hk1 hk2 hf fun M' hM' => by rw [hM'.eq hM]; exact ⟨rfl, rfl⟩
theorem z_e1 (n : Nat) : ∀ s, C (n+13) n_most_armies [bd 2 2 ft, .str "tower", .str "tower"] s = .ok (.int 1) s := fun s => k_most (n+7) ok22 (f := ft) (k1 := .tower) (k2 := .tower) trivial trivial (by rw [len22]; decide) (M := 1) m22tt s
theorem z_e2 (n : Nat) : ∀ s, C (n+13) n_most_armies [bd 2 2 ft, .str "runner", .str "runner"] s = .ok (.int 2) s := fun s => k_most (n+7) ok22 (f := ft) (k1 := .runner) (k2 := .runner) trivial trivial (by rw [len22]; decide) (M := 2) m22rr s
theorem z_e3 (n : Nat) : ∀ s, C (n+13) n_most_armies [bd 3 3 ft, .str "king", .str "king"] s = .ok (.int 3) s := fun s => k_most (n+7) ok33 (f := ft) (k1 := .king) (k2 := .king) trivial trivial (by rw [len33]; decide) (M := 3) m33kk s
theorem z_e4 (n : Nat) : ∀ s, C (n+13) n_most_armies [bd 2 2 ft, .str "runner", .str "tower"] s = .ok (.int 0) s := fun s => k_most (n+7) ok22 (f := ft) (k1 := .runner) (k2 := .tower) trivial trivial (by rw [len22]; decide) (M := 0) m22rt s
theorem z_e5 (n : Nat) : ∀ s, C (n+13) n_most_armies [bd 4 4 ft, .str "queen", .str "queen"] s = .ok (.int 2) s := fun s => k_most (n+7) ok44 (f := ft) (k1 := .queen) (k2 := .queen) trivial trivial (by rw [len44]; decide) (M := 2) m44qq s
theorem z_e6 (n : Nat) : ∀ s, C (n+13) n_most_armies [bd 4 4 ft, .str "runner", .str "runner"] s = .ok (.int 8) s := fun s => k_most (n+7) ok44 (f := ft) (k1 := .runner) (k2 := .runner) trivial trivial (by rw [len44]; decide) (M := 8) m44rr s
theorem z_a1 (n : Nat) : ∀ s, C (n+13) n_are_armies [bd 2 2 ft, .str "runner", .str "runner", .tup [.tup [.tup [.int 0, .int 0], .tup [.int 1, .int 1]], .tup [.tup [.int 0, .int 1], .tup [.int 1, .int 0]]]] s = .ok (.bl true) s := fun s => by
    have := k_are_armies ok22 (f := ft) (n+6) (k1 := .runner) (k2 := .runner) trivial trivial (.tup [.tup [.tup [.int 0, .int 0], .tup [.int 1, .int 1]], .tup [.tup [.int 0, .int 1], .tup [.int 1, .int 0]]]) (by decide) s
    rw [show isArmies (sqs 2 2 ft) .runner .runner (.tup [.tup [.tup [.int 0, .int 0], .tup [.int 1, .int 1]], .tup [.tup [.int 0, .int 1], .tup [.int 1, .int 0]]]) = true by decide +kernel] at this
    exact this
theorem z_a2 (n : Nat) : ∀ s, C (n+13) n_are_armies [bd 2 2 ft, .str "tower", .str "tower", .tup [.tup [.tup [.int 0, .int 0]], .tup [.tup [.int 0, .int 1]]]] s = .ok (.bl false) s := fun s => by
    have := k_are_armies ok22 (f := ft) (n+6) (k1 := .tower) (k2 := .tower) trivial trivial (.tup [.tup [.tup [.int 0, .int 0]], .tup [.tup [.int 0, .int 1]]]) (by decide) s
    rw [show isArmies (sqs 2 2 ft) .tower .tower (.tup [.tup [.tup [.int 0, .int 0]], .tup [.tup [.int 0, .int 1]]]) = false by decide +kernel] at this
    exact this
theorem z_a3 (n : Nat) : ∀ s, C (n+13) n_are_armies [bd 2 2 ft, .str "tower", .str "tower", .tup [.tup [.tup [.int 0, .int 0]], .tup [.tup [.int 0, .int 0]]]] s = .ok (.bl false) s := fun s => by
    have := k_are_armies ok22 (f := ft) (n+6) (k1 := .tower) (k2 := .tower) trivial trivial (.tup [.tup [.tup [.int 0, .int 0]], .tup [.tup [.int 0, .int 0]]]) (by decide) s
    rw [show isArmies (sqs 2 2 ft) .tower .tower (.tup [.tup [.tup [.int 0, .int 0]], .tup [.tup [.int 0, .int 0]]]) = false by decide +kernel] at this
    exact this
theorem z_g1 (n : Nat) : ∀ s, C (n+13) n_fewest_quarrels [bd 2 2 ft, .str "tower", .int 2] s = .ok (.int 0) s := fun s => by
    have := k_fewest ok22 (f := ft) (k := .tower) trivial (by rw [len22]; decide) (n+7) 2 (by rw [len22]; decide) s
    rw [q1] at this; exact this
theorem z_g2 (n : Nat) : ∀ s, C (n+13) n_fewest_quarrels [bd 2 2 ft, .str "tower", .int 3] s = .ok (.int 4) s := fun s => by
    have := k_fewest ok22 (f := ft) (k := .tower) trivial (by rw [len22]; decide) (n+7) 3 (by rw [len22]; decide) s
    rw [q2'] at this; exact this
theorem z_g3 (n : Nat) : ∀ s, C (n+13) n_fewest_quarrels [bd 2 2 ft, .str "queen", .int 2] s = .ok (.int 2) s := fun s => by
    have := k_fewest ok22 (f := ft) (k := .queen) trivial (by rw [len22]; decide) (n+7) 2 (by rw [len22]; decide) s
    rw [q3] at this; exact this
theorem z_g4 (n : Nat) : ∀ s, C (n+13) n_fewest_quarrels [bd 3 3 ft, .str "tower", .int 4] s = .ok (.int 4) s := fun s => by
    have := k_fewest ok33 (f := ft) (k := .tower) trivial (by rw [len33]; decide) (n+7) 4 (by rw [len33]; decide) s
    rw [q4] at this; exact this
theorem z_g5 (n : Nat) : ∀ s, C (n+13) n_fewest_quarrels [bd 4 4 ft, .str "queen", .int 4] s = .ok (.int 0) s := fun s => by
    have := k_fewest ok44 (f := ft) (k := .queen) trivial (by rw [len44]; decide) (n+7) 4 (by rw [len44]; decide) s
    rw [q5] at this; exact this
theorem k_law (n : Nat) (ns : List Int) (hl : ns.length ≤ 63) {Q : D → S → Prop} {sl : List Sl} (hQ : ∀ sh', Q (.bl true) ⟨sl, sh'⟩) : wpR (C (n+14) n_law [.lst (ns.map .int)] ⟨sl, []⟩) Q := by
  rw [u_law]
  have e1 := z_e1 n
  have e2 := z_e2 n
  have e3 := z_e3 n
  have e4 := z_e4 n
  have e5 := z_e5 n
  have e6 := z_e6 n
  have a1 := z_a1 n
  have a2 := z_a2 n
  have a3 := z_a3 n
  have g1 := z_g1 n
  have g2 := z_g2 n
  have g3 := z_g3 n
  have g4 := z_g4 n
  have g5 := z_g5 n
  simp [b_law]
  refine wpR_mono (r_cup (n+12) ns hl (Q := fun d s => d = .ref 0 ∧ ∃ sh', Cup sh' ∧ s = ⟨_, sh'⟩) fun sh' hc => ⟨rfl, sh', hc, rfl⟩) ?_
  rintro _ _ ⟨rfl, sh1, hc1, rfl⟩
  simp [L1, L2, e1, e2, e3, e4, a1, a2, a3]
  rw [like5 _ _ (by simp [okk, okkL]) (by simp [D.dep, D.depL])]
  simp [g1, g2, g3]
  refine r_calmest ok33 (f := ft) (n+7) (k1 := .tower) trivial (by rw [len33]; decide) 4 (by rw [len33]; decide) fun B hB => ?_
  have hBl := hB.2.1
  simp [hBl, g4]
  refine r_calmest ok22 (f := ft) (n+7) (k1 := .king) trivial (by rw [len22]; decide) 0 (Nat.zero_le _) fun B' hB' => ?_
  have hB2 : B' = [] := List.length_eq_zero_iff.mp hB'.2.1
  subst hB2
  simp
  rw [like5 _ _ (by simp [okk, okkL]) (by simp [D.dep, D.depL])]
  simp [mul_four, e5, e6, g5]
  rw [like5 _ _ (by simp [okk, okkL]) (by simp [D.dep, D.depL])]
  simp
  rw [show [D.tup [.int 2, .int 0], D.tup [.int 3, .int 0], D.tup [.int 3, .int 4]] = [((2 : Int), (0 : Int)), (3, 0), (3, 4)].map sq from rfl]
  refine for_each (fun t => ∃ a1 a2 a3 a5 a6 a7 a8 a9 sh', Cup sh' ∧ t = ⟨[.fz (.lst (ns.map .int)), .fz (.ref 0), a1, a2, a3, .un, a5, a6, a7, a8, a9, .un, .un, .un], sh'⟩) ⟨_, _, _, _, _, _, _, _, sh1, hc1, rfl⟩ ?_ ?_
  · rintro p hp _ ⟨a1, a2, a3, a5, a6, a7, a8, a9, sh2, hc2, rfl⟩
    obtain ⟨x, y⟩ := p
    have hxy : 1 ≤ x ∧ x ≤ 3 ∧ 0 ≤ y ∧ y ≤ 1000 := by
      simp at hp
      omega
    simp [sq]
    refine r_board (n+11) hc2 _ _ hxy.1 (by omega) hxy.2.2.1 hxy.2.2.2 fun R C' f sh3 g1 g2 g3 g4 hc3 => ?_
    have hb : BdOk R C' := by unfold BdOk; omega
    have hf : (sqs R C' f).length ≤ 16 := by
      have h1 := sqs_len R C' f
      have h2 : R * C' ≤ 3 * 3 := Nat.mul_le_mul (by omega) (by omega)
      omega
    simp
    refine r_kind (n+10) hc3 fun k1 sh4 hk1 hc4 => ?_
    simp
    refine r_kind (n+10) hc4 fun k2 sh5 hk2 hc5 => ?_
    simp
    refine r_some (n+11) hc5 (by simp) (by simp) fun d sh6 hd hc6 => ?_
    have hd : ∃ k, KdOk k ∧ d = kd k := by
      simp only [List.mem_cons, List.not_mem_nil, or_false] at hd
      rcases hd with rfl | rfl
      · exact ⟨k1, hk1, rfl⟩
      · exact ⟨k2, hk2, rfl⟩
    obtain ⟨k3, hk3, rfl⟩ := hd
    simp
    refine r_armies_right hb hk1 hk3 hf (n+3) hc6 fun sh7 hc7 => ?_
    simp
    refine r_kind (n+10) hc7 fun k4 sh8 hk4 hc8 => ?_
    have e : ∀ s, C (n+13) n__law_calm_right [bd R C' f, kd k4] s = .ok (.bl true) s := fun s => r_calm_right (n+3) hb hk4 hf s
    simp [e]
    exact hc8
  · rintro _ ⟨a1, a2, a3, a5, a6, a7, a8, a9, sh2, hc2, rfl⟩
    rw [seqQ_nx, wp_cons]
    refine wpR_mono (Q := fun r s' => r = .nx ∧ ∃ a1 a2 a3 a4 a5 a6 a7 a8 a9 a10 a11 a12 sh', Cup sh' ∧ s' = ⟨[.fz (.lst (ns.map .int)), .fz (.ref 0), a1, a2, a3, a4, a5, a6, a7, a8, a9, a10, a11, a12], sh'⟩) ?_ ?_
    · simp
      refine r_roll (n+12) hc2 _ (by decide) (by decide) fun r sh3 g0 g1 hc3 => ?_
      simp
      split
      · rw [rng1_int 11 (by decide) (by decide)]
        simp
        refine for_rule (fun (p : List Int) (t : S) => ∃ (kvs : List (D × D)) (b : Sl) (sh' : List D), (kvs.length ≤ p.length ∧ Cup sh') ∧ t = ⟨[.fz (.lst (ns.map .int)), .fz (.ref 0), a1, a2, a3, .un, a5, a6, a7, a8, a9, .ow (dct false kvs), b, .un], sh'⟩) ⟨[], .un, sh3, ⟨Nat.zero_le _, hc3⟩, rfl⟩ ?_ ?_
        · rintro p x q _ hp ⟨kvs, b, sh4, ⟨hlen, hc4⟩, rfl⟩
          have hpl : p.length ≤ 11 := by have := congrArg List.length hp; simp at this; omega
          have hk : kvs.length < 16777216 := by omega
          simp
          refine r_roll (n+12) hc4 _ (by decide) (by decide) fun z sh5 g2 g3 hc5 => ?_
          simp [hk]
          exact ⟨Nat.le_trans (put_len _ _ _) (by omega), hc5⟩
        · rintro _ ⟨kvs, b, sh4, ⟨hlen, hc4⟩, rfl⟩
          simp
          rw [rng1_int 4 (by decide) (by decide)]
          simp
          rw [comp_map (g := fun r => .str (ln 4 fun c => (dLook kvs (.int (4 * r + c))).isSome)) (by rfl) (by rw [rng_len, sz_line]; decide) (fun r hr => ?_)]
          rotate_left
          · simp
            rw [rng1_int 4 (by decide) (by decide)]
            simp
            rw [comp_map (g := fun c => .str (ch (dLook kvs (.int (4 * r + c))).isSome)) (by rfl) (by rw [rng_len, sz_line]; decide) (fun c hc => ?_)]
            · simp [v_join _ _ (fun c => (dLook kvs (.int (4 * r + c))).isSome)]
            · simp
              cases dLook kvs (.int (4 * r + c)) <;> rfl
          simp
          have hb : BdOk 4 4 := ok44
          have hf : (sqs 4 4 fun r c => (dLook kvs (.int (4 * r + c))).isSome).length ≤ 16 := sqs_len 4 4 _
          refine r_kind (n+10) hc4 fun k1 sh5 hk1 hc5 => ?_
          simp
          refine r_kind (n+10) hc5 fun k2 sh6 hk2 hc6 => ?_
          simp
          refine r_armies_right hb hk1 hk2 hf (n+3) hc6 fun sh7 hc7 => ?_
          simp
          exact hc7
      · simp [hc3]
    · rintro _ _ ⟨rfl, a1, a2, a3, a4, a5, a6, a7, a8, a9, a10, a11, a12, sh3, hc3, rfl⟩
      simp
      refine r_roll (n+12) hc3 _ (by decide) (by decide) fun r sh4 g0 g1 hc4 => ?_
      obtain ⟨w, hw⟩ : ∃ w : Nat, 1 + r = w := ⟨(1 + r).toNat, by omega⟩
      have w1 : 1 ≤ w := by omega
      have w16 : w ≤ 16 := by omega
      have hb : BdOk 1 w := by unfold BdOk; omega
      have hf : (sqs 1 w ft).length ≤ 16 := by rw [row_len]; exact w16
      have r1 : ∀ s, C (n+13) n_most_armies [bd 1 w ft, .str "tower", .str "king"] s = .ok (.int 0) s := fun s => k_most (n+7) hb (f := ft) (k1 := .tower) (k2 := .king) trivial trivial hf (M := 0) (rowt w w1 w16) s
      have r2 : ∀ s, C (n+13) n_most_armies [bd 1 w ft, .str "king", .str "king"] s = .ok (.int ((w - 1) / 2 : Nat)) s := fun s => k_most (n+7) hb (f := ft) (k1 := .king) (k2 := .king) trivial trivial hf (rowk w w1 w16) s
      have r3 : ∀ s, C (n+13) n_most_armies [bd 1 w ft, .str "runner", .str "runner"] s = .ok (.int (w / 2 : Nat)) s := fun s => k_most (n+7) hb (f := ft) (k1 := .runner) (k2 := .runner) trivial trivial hf (rowr w) s
      have r4 : ∀ s, C (n+13) n_fewest_quarrels [bd 1 w ft, .str "tower", .int w] s = .ok (.int (w * (w - 1) : Nat)) s := fun s => by
        have := k_fewest hb (f := ft) (k := .tower) trivial hf (n+7) w (by rw [row_len]; exact Nat.le_refl _) s
        rw [rowq w w1 w16] at this; exact this
      simp [hw, mul_dot w (by omega), row_bd, r1, r2, r3, r4]
      have hc1 : ((w - 1 : Nat) : Int) = (w : Int) - 1 := by omega
      have hm : binD .Mult (.int (w : Int)) (.int ((w : Int) - 1)) = some (.int ((w : Int) * ((w : Int) - 1))) := b_mult_l _ _ (by omega) (by omega)
      simp [hm, hc1]
      rw [like5 _ _ (by simp [okk, okkL]) (by simp [D.dep, D.depL])]
      exact hQ _
theorem law_ok : ∀ ns : List Int, ns.length ≤ 63 → ∃ s, callF fns cds WH 61 n_law [.lst (ns.map .int)] ⟨[], []⟩ = .ok (.bl true) s := by
  intro ns hl
  have h := k_law 47 ns hl (Q := fun d _ => d = .bl true) (sl := []) fun _ => rfl
  obtain ⟨d, s, e, rfl⟩ := wpR_ex h
  refine ⟨s, ?_⟩
  unfold C at e
  exact e
end Law

set_option maxRecDepth 100000
namespace Law
open PySem Pv Pw
def top (i : Nat) : Stmt := PySem.Challenge.pw_piecesplaced_k77_whole_armies_and_calm_p.main.body.getD i (.Pass ⟨0, 0, 0, 0⟩)
def h0 : FnE := ⟨"is_integer", top 15, ["value"], ["value"], b_is_integer⟩
def h1 : FnE := ⟨"is_whole", top 16, ["value", "low", "high"], ["value", "low", "high"], b_is_whole⟩
def h2 : FnE := ⟨"need_whole", top 17, ["value", "low", "high"], ["value", "low", "high"], b_need_whole⟩
def h3 : FnE := ⟨"is_tuple_of", top 18, ["value", "low", "high"], ["value", "low", "high"], b_is_tuple_of⟩
def h4 : FnE := ⟨"is_rising", top 19, ["things", "one", "other"], ["things"], b_is_rising⟩
def h5 : FnE := ⟨"is_word", top 20, ["value", "signs", "low", "high", "sign"], ["value", "signs", "low", "high"], b_is_word⟩
def h6 : FnE := ⟨"is_pair_in", top 21, ["value", "rows", "columns"], ["value", "rows", "columns"], b_is_pair_in⟩
def h7 : FnE := ⟨"fits_board", top 22, ["value", "row"], ["value"], b_fits_board⟩
def h8 : FnE := ⟨"need_board", top 23, ["value"], ["value"], b_need_board⟩
def h9 : FnE := ⟨"fits_kind", top 24, ["value"], ["value"], b_fits_kind⟩
def h10 : FnE := ⟨"need_kind", top 25, ["value"], ["value"], b_need_kind⟩
def h11 : FnE := ⟨"squares_in", top 26, ["board", "found", "row", "line", "column", "sign"], ["board"], b_squares_in⟩
def h12 : FnE := ⟨"is_square_of", top 27, ["board", "value"], ["board", "value"], b_is_square_of⟩
def h13 : FnE := ⟨"fits_placed", top 28, ["board", "value", "square"], ["board", "value"], b_fits_placed⟩
def h14 : FnE := ⟨"need_placed", top 29, ["board", "value"], ["board", "value"], b_need_placed⟩
def h15 : FnE := ⟨"takes", top 30, ["kind", "one", "other", "down", "across", "straight", "aslant"], ["kind", "one", "other"], b_takes⟩
def h16 : FnE := ⟨"stand_apart", top 31, ["kind", "placed", "at", "one", "other"], ["kind", "placed"], b_stand_apart⟩
def h17 : FnE := ⟨"are_placed", top 32, ["board", "value"], ["board", "value"], b_are_placed⟩
def h18 : FnE := ⟨"do_stand_apart", top 33, ["board", "kind", "placed"], ["board", "kind", "placed"], b_do_stand_apart⟩
def h19 : FnE := ⟨"fits_armies", top 36, ["board", "one", "other", "value", "square", "foe", "army"], ["board", "one", "other", "value"], b_fits_armies⟩
def h20 : FnE := ⟨"barred_by", top 37, ["squares", "one", "other", "square", "foe"], ["squares", "one", "other", "square"], b_barred_by⟩
def h21 : FnE := ⟨"armies_in", top 38, ["squares", "one", "other", "bars", "best", "line", "army", "left", "foes", "many", "square", "foe"], ["squares", "one", "other"], b_armies_in⟩
def h22 : FnE := ⟨"calmest_in", top 39, ["squares", "kind", "many", "best", "line", "placed", "at", "pairs", "more", "one"], ["squares", "kind", "many"], b_calmest_in⟩
def h23 : FnE := ⟨"need_camps", top 40, ["board", "one", "other"], ["board", "one", "other"], b_need_camps⟩
def h24 : FnE := ⟨"need_few_squares", top 41, ["board"], ["board"], b_need_few_squares⟩
def h25 : FnE := ⟨"need_crowd", top 42, ["board", "kind", "many"], ["board", "kind", "many"], b_need_crowd⟩
def h26 : FnE := ⟨"are_armies", top 43, ["board", "one", "other", "value"], ["board", "one", "other", "value"], b_are_armies⟩
def h27 : FnE := ⟨"most_armies", top 44, ["board", "one", "other"], ["board", "one", "other"], b_most_armies⟩
def h28 : FnE := ⟨"armies_for", top 45, ["board", "one", "other"], ["board", "one", "other"], b_armies_for⟩
def h29 : FnE := ⟨"fewest_quarrels", top 46, ["board", "kind", "many"], ["board", "kind", "many"], b_fewest_quarrels⟩
def h30 : FnE := ⟨"calmest", top 47, ["board", "kind", "many"], ["board", "kind", "many"], b_calmest⟩
def h31 : FnE := ⟨"_law_cup", top 49, ["script", "cell"], ["script"], b__law_cup⟩
def h32 : FnE := ⟨"_law_roll", top 50, ["cup", "many", "deep", "found"], ["cup", "many"], b__law_roll⟩
def h33 : FnE := ⟨"_law_some", top 51, ["cup", "things"], ["cup", "things"], b__law_some⟩
def h34 : FnE := ⟨"_law_sort", top 52, ["value"], ["value"], b__law_sort⟩
def h35 : FnE := ⟨"_law_like", top 53, ["one", "other", "sort", "first", "second"], ["one", "other"], b__law_like⟩
def h36 : FnE := ⟨"_law_board", top 54, ["cup", "most", "holes", "found", "row", "rows", "columns", "line", "column"], ["cup", "most", "holes"], b__law_board⟩
def h37 : FnE := ⟨"_law_squares", top 55, ["board", "found", "row", "line", "column"], ["board"], b__law_squares⟩
def h38 : FnE := ⟨"_law_takes", top 56, ["kind", "one", "other", "down", "across"], ["kind", "one", "other"], b__law_takes⟩
def h39 : FnE := ⟨"_law_kind", top 57, ["cup"], ["cup"], b__law_kind⟩
def h40 : FnE := ⟨"_law_lots", top 58, ["things", "found", "thing", "some"], ["things"], b__law_lots⟩
def h41 : FnE := ⟨"_law_bent", top 59, ["cup", "value", "some", "at", "way"], ["cup", "value"], b__law_bent⟩
def h42 : FnE := ⟨"_law_is_square", top 60, ["board", "value", "one"], ["board", "value"], b__law_is_square⟩
def h43 : FnE := ⟨"_law_are_armies", top 61, ["board", "one", "other", "value", "square", "army", "foe"], ["board", "one", "other", "value"], b__law_are_armies⟩
def h44 : FnE := ⟨"_law_is_army", top 62, ["board", "value", "square"], ["board", "value"], b__law_is_army⟩
def h45 : FnE := ⟨"_law_most", top 63, ["board", "one", "other", "army", "squares", "best", "foes", "foe"], ["board", "one", "other"], b__law_most⟩
def h46 : FnE := ⟨"_law_armies_right", top 64, ["cup", "board", "one", "other", "squares", "drawn", "values", "value", "told", "most", "turn", "square"], ["cup", "board", "one", "other"], b__law_armies_right⟩
def h47 : FnE := ⟨"_law_quarrels", top 65, ["kind", "placed", "at", "one", "other"], ["kind", "placed"], b__law_quarrels⟩
def h48 : FnE := ⟨"_law_calm_right", top 66, ["board", "kind", "lot", "told", "many", "squares", "least", "own", "placed"], ["board", "kind"], b__law_calm_right⟩
def h49 : FnE := ⟨"law", top 67, ["script", "cup", "told", "four", "wide", "row", "one", "two", "most", "holes", "board", "places", "turn", "column"], ["script"], b_law⟩
def cs : List (Str × D) := [("MOST", (.int 24)), ("LEAST_LEAP", (.int 1)), ("FAR_LEAP", (.int 12)), ("SQUARE", (.str ".")), ("HOLE", (.str "#")), ("LINES", (.tup [(.str "tower"), (.str "runner"), (.str "queen")])), ("NAMES", (.tup [(.str "tower"), (.str "runner"), (.str "queen"), (.str "king")])), ("FEW", (.int 16))]
def prog : Prg := ⟨[h0, h1, h2, h3, h4, h5, h6, h7, h8, h9, h10, h11, h12, h13, h14, h15, h16, h17, h18, h19, h20, h21, h22, h23, h24, h25, h26, h27, h28, h29, h30, h31, h32, h33, h34, h35, h36, h37, h38, h39, h40, h41, h42, h43, h44, h45, h46, h47, h48, h49], cs⟩
theorem prog_fns : prog.fns = fns := rfl
theorem prog_cds : prog.cds = cds := rfl
def names0 : List Str := ["__name__", "BoardError", "InvalidBoard", "InvalidKind", "InvalidPlaced", "InvalidNumber", "TooMany", "MOST", "LEAST_LEAP", "FAR_LEAP", "SQUARE", "HOLE", "LINES", "NAMES", "is_integer", "is_whole", "need_whole", "is_tuple_of", "is_rising", "is_word", "is_pair_in", "fits_board", "need_board", "fits_kind", "need_kind", "squares_in", "is_square_of", "fits_placed", "need_placed", "takes"]
def names1 : List Str := ["stand_apart", "are_placed", "do_stand_apart", "FEW", "fits_armies", "barred_by", "armies_in", "calmest_in", "need_camps", "need_few_squares", "need_crowd", "are_armies", "most_armies", "armies_for", "fewest_quarrels", "calmest", "_law_cup", "_law_roll", "_law_some", "_law_sort", "_law_like", "_law_board", "_law_squares", "_law_takes", "_law_kind", "_law_lots", "_law_bent", "_law_is_square", "_law_are_armies", "_law_is_army"]
def names2 : List Str := ["_law_most", "_law_armies_right", "_law_quarrels", "_law_calm_right"]
def names : List Str := names0 ++ names1 ++ names2
end Law

set_option maxRecDepth 100000
set_option maxHeartbeats 0
namespace Law
open PySem Pv Pw PyProof.Rows
abbrev R : PySem.W.OpenRow := PySem.W.OpenLaw.row PySem.Challenge.rw_piecesplaced_k77_whole_armies_and_calm_p
abbrev hk : PySem.W.Hook := He.hookX 4 prog.fas prog.dds [] [] (constB prog)
def ob (s : PySem.W.SharedT) : He.AlX := He.obsX 4 prog.fas prog.dds [] [] (constB prog) (HandSHeadRun.getT s)
theorem ob_eq (s : PySem.W.SharedT) : ob s = hk.obs s.abs := He.obsX_eq (HandSHeadRun.getT_eq s)
theorem run (w : World) : HandSHeadRun.RunEq R (PySem.W.view R.prog [67]) hk ob 6000 names w := by
  intro os
  kernel_rfl
end Law

set_option maxRecDepth 100000
set_option maxHeartbeats 0
namespace Law
open PySem Pv Pw PyProof.Rows
theorem chk_ok : prog.chk = true := by kernel_rfl
theorem lawOk : LawOk prog 1000000 60 49 := law_ok
end Law
open PySem PySem.W PySem.Calls PyProof.Rows
theorem PySem.Challenge.cw_piecesplaced_k77_whole_armies_and_calm_p_holds : PySem.Challenge.rw_piecesplaced_k77_whole_armies_and_calm_p.Holds := by
  w_on; o_law
  refine HandSHeadRun.head_any (r := Law.R) (q := view Law.R.prog [67]) (H := Law.hk) (ob := Law.ob) (M := 6000) (loose := Law.names) (d := HandSHeadRun.topDef Law.R.prog 67) (kwd := []) Law.ob_eq
    (by kernel_rfl) (fun s => by kernel_rfl) Law.run (by kernel_rfl) (by kernel_rfl) (by kernel_rfl) (by rfl) (by first | assumption | decide +kernel) (by decide +kernel) ⟨rfl, rfl, rfl, rfl, rfl, by decide +kernel⟩ ?hw ?hc
  case hw => w_witness2
  case hc => exact Pv.prg_walk (p := Law.prog) (l := PySem.Challenge.rw_piecesplaced_k77_whole_armies_and_calm_p) (e := Law.h49) (g := 49) Law.chk_ok rfl rfl (by kernel_rfl) Law.lawOk rfl (by kernel_rfl) ⟨rfl, by decide, by decide⟩
